/-
 Plain proofs about the functions of this seat, part 2 of 3.
-/
import Derived.Test.YtjffajodppnejaaGreatDoorQ1
import Derived.Test.YtjffajodppnejaaGreatDoorTr
import Derived.Test.YtjffajodppnejaaGreatDoorFlatM4
import Derived.KernelRfl
namespace Go.Proofs.YtjffajodppnejaaGreatDoor
open Go.Flat Go.Plim
set_option linter.unusedVariables false
set_option linter.unusedSimpArgs false
structure TrsW (s:Trs):Prop where
 a:∀x∈s.1,SloW x
 b:∀x∈s.2.1,SloW x
 c:∀x∈s.2.2,SloW x
theorem FoldOk.w {c:Conf} {s:Trs} (h:FoldOk c s):TrsW s:=⟨r0u h.t0,r0u h.t1,r0u h.t2⟩
theorem k0t (n:Nat) (c:Conf):d0e (n+3) c=some (if OkC c then 0 else 2):=by
 by_cases h:OkC c
 ·rw[if_pos h,a1k n h]
 ·rw[if_neg h,check_no n h]
theorem w0k (n:Nat) (c:Conf) {s:Trs} (hw:TrsW s):w0l (n+8) c s=some (if FoldOk c s then (some (c,s),0) else (none,2)):=by
 rw[p1m,k0t (n+4),r0s n _ _ hw.a,r0s n _ _ hw.b,r0s n _ _ hw.c];simp only[obs,tfn,tfd];by_cases h0:OkC c
 case neg=>rw[if_neg (mt (z02 _).1 h0),if_neg h0,if_neg (fun k:FoldOk c s=>h0 k.cok)]
 rw[if_pos ((z02 _).2 h0)];by_cases h1:(s.1.length:Int)=c.2.2.1.1
 case neg=>rw[if_neg h1,if_neg (fun k:FoldOk c s=>h1 k.n0)]
 rw[if_pos h1];by_cases h2:TierOk s.1 c.2.1.1
 case neg=>rw[if_neg (mt (z02 _).1 h2),if_neg (fun k:FoldOk c s=>h2 k.t0)]
 rw[if_pos ((z02 _).2 h2)];by_cases h3:(s.2.1.length:Int)=c.2.2.1.2.1
 case neg=>rw[if_neg h3,if_neg (fun k:FoldOk c s=>h3 k.n1)]
 rw[if_pos h3];by_cases h4:TierOk s.2.1 c.2.1.2.1
 case neg=>rw[if_neg (mt (z02 _).1 h4),if_neg (fun k:FoldOk c s=>h4 k.t1)]
 rw[if_pos ((z02 _).2 h4)];by_cases h5:(s.2.2.length:Int)=c.2.2.1.2.2
 case neg=>rw[if_neg h5,if_neg (fun k:FoldOk c s=>h5 k.n2)]
 rw[if_pos h5];by_cases h6:TierOk s.2.2 c.2.1.2.2
 case neg=>rw[if_neg (mt (z02 _).1 h6),if_neg (fun k:FoldOk c s=>h6 k.t2)]
 rw[if_pos ((z02 _).2 h6),if_pos (⟨h0,h1,h3,h5,h2,h4,h6⟩:FoldOk c s)]
theorem a2g (n:Nat) (c:Conf) {s:Trs} (hw:TrsW s):y0c (n+9) c s=some (if FoldOk c s then 0 else 2):=by
 rw[l1g,w0k n c hw];by_cases h:FoldOk c s
 ·rw[if_pos h,if_pos h];rfl
 ·rw[if_neg h,if_neg h];rfl
noncomputable def emp (c:Conf):Trs:=if OkC c then (List.replicate c.2.2.1.1.toNat s0,(List.replicate c.2.2.1.2.1.toNat s0,List.replicate c.2.2.1.2.2.toNat s0)) else ([],([],[]))
theorem a2e (n:Nat) (c:Conf):y0a (n+4) c=some (emp c):=by
 rw[l1e,k0t n];simp only[obs,tfn,tfd,tier_new];unfold emp;by_cases h:OkC c
 ·have h0:=h.rng.n0;have h1:=h.rng.n1;have h2:=h.rng.n2;rw[if_pos ((z02 _).2 h),if_pos h,if_pos h0,if_pos h1,if_pos h2]
 ·rw[if_neg (mt (z02 _).1 h),if_neg h]
theorem quo_top {w:Int} (hw:1≤w):IntKind.wrap .i64 (Int.tdiv 35184372088831 w)=35184372088831 / w:=by
 have:0≤(35184372088831:Int) / w:=Int.ediv_nonneg (by decide) (by omega);have:(35184372088831:Int) / w≤35184372088831:=Int.ediv_le_self _ (by decide);rw[w0x (by decide),w64 (by omega) (by omega)]
theorem begins_0 (n:Nat) (c:Conf) (s:Trs) (h:1≤c.2.1.1) (i:Int):p0o (n+1) (c,s) 0 i=some (decide (h0w c.2.1.1 i),(c,s)):=by
 rw[z0t];simp only[tfd,if_neg (show ¬(c.2.1.1=0) by omega),quo_top h];by_cases h0:(0:Int)≤i
 ·rw[if_pos h0];refine congrArg (fun b=>some (b,(c,s))) (decide_eq_decide.2 ⟨fun k=>⟨h0,k⟩,fun k=>k.2⟩)
 ·rw[if_neg h0,decide_eq_false (fun k:h0w c.2.1.1 i=>h0 k.1)]
theorem allE_okc (l:List Cel):∀c,c0z c→c0z (allE c l).1:=by
 induction l with
 | nil=>intro c h;exact h
 | cons x l ih =>
  intro c h;simp only[allE];split
  ·rename_i k;exact ih _ (s1z k).2.2.2.2
  ·exact e2j
theorem n1m (l:List Slo) (i k:Int):c0z (x1q l i k).1:=by
 unfold x1q;split
 ·exact e2j
 ·exact allE_okc _ _ e2j
theorem g1w {a b i:Int} (ha:1≤a∧a≤1099511627776) (hb:1≤b∧b≤1099511627776) (hm:b % a=0) (h:h0w b i) :
  IntKind.wrap .i64 (i*(b / a))=i*(b / a)∧IntKind.wrap .i64 ((IntKind.wrap .i64 (i+1))*(b / a))=(i+1)*(b / a):=by
 obtain ⟨h1,h2,h3,h4,h5,h6⟩:=z1l ha hb hm h;have:=q1k hb.1 h;have:=h.1;rw[w64 (x:=i+1) (by omega) (by omega),h6,w64 (by omega) (by omega),w64 (by omega) (by omega)];exact ⟨rfl,rfl⟩
theorem a2d (n:Nat) {c:Conf} {s:Trs} (h:FoldOk c s) {i:Int} (hb:h0w c.2.1.2.1 i):g0n (n+19) (c,s) 1 i=some ((mk1 c s i).1,((mk1 c s i).2,(c,s))):=by
 have hr:=h.cok.rng;obtain ⟨e1,e2⟩:=g1w hr.w0 hr.w1 h.cok.m1 hb;rw[f1g];simp only[tfd,if_neg (show ¬(c.2.1.1=0) by have:=hr.w0;omega),y1x hr.w1 hr.w0.1,e1,e2,n1g n h.t0,obs];rfl
theorem a2c (n:Nat) {c:Conf} {s:Trs} (h:FoldOk c s) {i:Int} (hb:h0w c.2.1.2.2 i):g0n (n+19) (c,s) 2 i=some ((mk2 c s i).1,((mk2 c s i).2,(c,s))):=by
 have hr:=h.cok.rng;obtain ⟨e1,e2⟩:=g1w hr.w1 hr.w2 h.cok.m2 hb;rw[f1f];simp only[tfd,if_neg (show ¬(c.2.1.2.1=0) by have:=hr.w1;omega),y1x hr.w2 hr.w1.1,e1,e2,n1g n h.t1,obs];rfl
theorem g2g (n:Nat) {c:Conf} {s:Trs} (h:FoldOk c s) (i:Int) {x:Cel} (hx:CelW x):f0d (n+9) (c,s) 0 i x=some (if FitsP x c.2.1.1 i then (0,(c,(tput s.1 i x,s.2))) else (2,(c,s))):=by
 rw[l1l,i1x n _ _ (r0u h.t0) hx];simp only[obs,tfd];by_cases hf:FitsP x c.2.1.1 i
 ·rw[if_pos (And.intro h.t0 hf),if_pos hf];rfl
 ·have hn:¬(TierOk s.1 c.2.1.1∧FitsP x c.2.1.1 i):=fun k=>hf k.2
  rw[if_neg hn,if_neg hf];rfl
theorem g2f (n:Nat) {c:Conf} {s:Trs} (h:FoldOk c s) (i:Int) {x:Cel} (hx:CelW x):f0d (n+9) (c,s) 1 i x=some (if FitsP x c.2.1.2.1 i then (0,(c,(s.1,(tput s.2.1 i x,s.2.2)))) else (2,(c,s))):=by
 rw[l1k,i1x n _ _ (r0u h.t1) hx];simp only[obs,tfd];by_cases hf:FitsP x c.2.1.2.1 i
 ·rw[if_pos (And.intro h.t1 hf),if_pos hf];rfl
 ·have hn:¬(TierOk s.2.1 c.2.1.2.1∧FitsP x c.2.1.2.1 i):=fun k=>hf k.2
  rw[if_neg hn,if_neg hf];rfl
theorem g2e (n:Nat) {c:Conf} {s:Trs} (h:FoldOk c s) (i:Int) {x:Cel} (hx:CelW x):f0d (n+9) (c,s) 2 i x=some (if FitsP x c.2.1.2.2 i then (0,(c,(s.1,(s.2.1,tput s.2.2 i x)))) else (2,(c,s))):=by
 rw[l1j,i1x n _ _ (r0u h.t2) hx];simp only[obs,tfd];by_cases hf:FitsP x c.2.1.2.2 i
 ·rw[if_pos (And.intro h.t2 hf),if_pos hf];rfl
 ·have hn:¬(TierOk s.2.2 c.2.1.2.2∧FitsP x c.2.1.2.2 i):=fun k=>hf k.2
  rw[if_neg hn,if_neg hf];rfl
theorem s0g {a w i j:Int} (ha:1≤a) (hw:1≤w) (h0:0≤i) (hij:i≤j) (hj:h0w a j) :
  IntKind.wrap .i64 (Int.tdiv (IntKind.wrap .i64 (i*a)) w)=i*a / w∧h0w w (i*a / w):=by
 have hm:=hj.mul ha;have h1:0≤i*a:=Int.mul_nonneg h0 (by omega);have h2:i*a≤j*a:=Int.mul_le_mul_of_nonneg_right hij (by omega);have h3:0≤i*a / w:=Int.ediv_nonneg h1 (by omega);have h4:i*a / w≤i*a:=Int.ediv_le_self _ h1;rw[w64 (x:=i*a) (by omega) (by omega),w0x h1,w64 (by omega) (by omega)];exact ⟨rfl,i1b hw ⟨h1,by omega⟩⟩
theorem c2o (n:Nat) {c:Conf} {s:Trs} (h:FoldOk c s) {i j:Int} (h0:0≤i) (hij:i≤j) (hj:h0w c.2.1.1 j) :
  (tif (decide (IntKind.wrap .i64 (Int.tdiv (IntKind.wrap .i64 (i*c.2.1.1)) c.2.1.2.2)=IntKind.wrap .i64 (Int.tdiv (IntKind.wrap .i64 (j*c.2.1.1)) c.2.1.2.2))) (some (c,s))
   (a0a (g0n (n+19) (c,s) (2:Int) (IntKind.wrap .i64 (Int.tdiv (IntKind.wrap .i64 (i*c.2.1.1)) c.2.1.2.2))) fun r0 =>
    tif (decide (r0.2.1=(0:Int))) (tif (decide ((0:Int)<r0.1.1)) (a0a (f0d (n+19) r0.2.2 (2:Int) (IntKind.wrap .i64 (Int.tdiv (IntKind.wrap .i64 (i*c.2.1.1)) c.2.1.2.2)) r0.1) fun r1=>some r1.2) (some r0.2.2)) (some r0.2.2)))=some (c,up2 c s i j):=by
 have hr:=h.cok.rng;have hjj:0≤j:=hj.1;obtain ⟨e1,b1⟩:=s0g hr.w0.1 hr.w2.1 h0 hij hj;obtain ⟨e2,_⟩:=s0g hr.w0.1 hr.w2.1 hjj (Int.le_refl j) hj;rw[e1,e2,a2c n h b1];simp only[obs,tfd];unfold up2;by_cases c1:i*c.2.1.1 / c.2.1.2.2=j*c.2.1.1 / c.2.1.2.2
 ·rw[if_pos c1,if_pos c1]
 rw[if_neg c1,if_neg c1];generalize i*c.2.1.1 / c.2.1.2.2=a at *
 have hok:c0z (mk2 c s a).1:=n1m _ _ _;by_cases c2:(mk2 c s a).2=0
 ·rw[if_pos c2];by_cases c3:0<(mk2 c s a).1.1
  ·rw[if_pos c3,g2e (n+10) h a (CelW.of hok)];by_cases c4:FitsP (mk2 c s a).1 c.2.1.2.2 a
   ·rw[if_pos c4,if_pos (And.intro c2 c4)];rfl
   ·rw[if_neg c4,if_neg (fun k=>c4 k.2)];rfl
  ·rw[if_neg c3,if_neg (fun k=>c3 (by have:=k.2.n.n1;omega))]
 ·rw[if_neg c2,if_neg (fun k=>c2 k.1)]
theorem fold_up (n:Nat) {c:Conf} {s:Trs} (h:FoldOk c s) {i j:Int} (h0:0≤i) (hij:i≤j) (hj:h0w c.2.1.1 j):l1i (n+20) (c,s) i j=some (c,upw c s i j):=by
 have hr:=h.cok.rng;have hjj:0≤j:=hj.1;obtain ⟨e1,b1⟩:=s0g hr.w0.1 hr.w1.1 h0 hij hj;obtain ⟨e2,_⟩:=s0g hr.w0.1 hr.w1.1 hjj (Int.le_refl j) hj;have z1:¬(c.2.1.2.1=0):=by have:=hr.w1;omega
 have z2:¬(c.2.1.2.2=0):=by have:=hr.w2;omega
 rw[a2p];simp only[e1,e2,decide_eq_false z1,decide_eq_false z2,tff,a2d n h b1,obs,c2o n h h0 hij hj];unfold upw;simp only[tfd];by_cases c1:i*c.2.1.1 / c.2.1.2.1=j*c.2.1.1 / c.2.1.2.1
 ·have:up1 c s i j=s:=by unfold up1;rw[if_pos c1]
  rw[if_pos c1,this]
 rw[if_neg c1];have e3:up1 c s i j=if (mk1 c s (i*c.2.1.1 / c.2.1.2.1)).2=0∧FitsP (mk1 c s (i*c.2.1.1 / c.2.1.2.1)).1 c.2.1.2.1 (i*c.2.1.1 / c.2.1.2.1) then (s.1,(tput s.2.1 (i*c.2.1.1 / c.2.1.2.1) (mk1 c s (i*c.2.1.1 / c.2.1.2.1)).1,s.2.2)) else s:=by
  unfold up1;rw[if_neg c1]
 have hk:=up1_ok h i j;rw[e3] at hk ⊢;generalize i*c.2.1.1 / c.2.1.2.1=a at *
 have hok:c0z (mk1 c s a).1:=n1m _ _ _;by_cases c2:(mk1 c s a).2=0
 ·rw[if_pos c2];by_cases c3:0<(mk1 c s a).1.1
  ·rw[if_pos c3,g2f (n+10) h a (CelW.of hok)];by_cases c4:FitsP (mk1 c s a).1 c.2.1.2.1 a
   ·rw[if_pos (And.intro c2 c4)] at hk ⊢;rw[if_pos c4];have:=c2o n hk h0 hij hj;simp only[obs,if_neg z2];simp only[tfd] at this ⊢;exact this
   ·have hn1:¬((mk1 c s a).2=0∧FitsP (mk1 c s a).1 c.2.1.2.1 a):=fun k=>c4 k.2
    rw[if_neg hn1] at hk ⊢;rw[if_neg c4];have:=c2o n hk h0 hij hj;simp only[obs,if_neg z2];simp only[tfd] at this ⊢;exact this
  ·rw[if_neg c3,if_neg (fun k=>c3 (by have:=k.2.n.n1;omega))]
 ·rw[if_neg c2,if_neg (fun k=>c2 k.1)]
noncomputable def z0h (c:Conf) (s:Trs) (was:Slo) (j:Int):Trs×Int :=
 if FoldOk c s then
  (if was=s0 then (s,0)
   else if FitsP was.2 c.2.1.1 was.1 then
    (if was.1=j then (s,0) else if was.1≤j∧h0w c.2.1.1 j then (upw c (tput s.1 was.1 was.2,s.2) was.1 j,0) else (([],([],[])),1))
   else (([],([],[])),2))
 else (([],([],[])),2)
theorem c1j {c:Conf} {s:Trs} (h:FoldOk c s) {i:Int} {x:Cel} (hf:FitsP x c.2.1.1 i):FoldOk c (tput s.1 i x,s.2) :=
 ⟨h.cok,by simpa [tput] using h.n0,h.n1,h.n2,i1w h.t0 hf,h.t1,h.t2⟩
theorem a2f (n:Nat) (c:Conf) {s:Trs} (hw:TrsW s) {was:Slo} (hx:SloW was) (j:Int):y0b (n+21) c s was j=some (z0h c s was j):=by
 rw[l1f,w0k (n+12) c hw];unfold z0h;by_cases h:FoldOk c s
 case neg=>rw[if_neg h,if_neg h];rfl
 have hr:=h.cok.rng;rw[if_pos h,if_pos h];simp only[obs,s0h,decide_true,Bool.not_true,tff,d2b,tfn,tfd,if_true,u0u (n+14) hx.c];by_cases c1:was=s0
 ·rw[if_pos c1,if_pos c1,if_pos c1]
 rw[if_neg c1,if_neg c1,if_neg c1];by_cases c2:FitsP was.2 c.2.1.1 was.1
 case neg=>rw[if_neg c2,if_neg c2]
 rw[if_pos c2,if_pos c2];by_cases c3:was.1=j
 ·rw[if_pos c3,if_pos c3]
 rw[if_neg c3,if_neg c3];by_cases c4:j<was.1
 ·rw[if_pos c4,if_neg (fun q=>by omega)]
 rw[if_neg c4,begins_0 (n+19) c s hr.w0.1 j];simp only[obs,tfn,tfd];by_cases hb:h0w c.2.1.1 j
 ·have hi:=c2.i0;rw[if_pos hb,if_pos ⟨by omega,hb⟩,g2g (n+11) h was.1 hx.c,if_pos c2];simp only[obs,if_true,fold_up n (c1j h c2) hi.1 (show was.1≤j by omega) hb]
 ·rw[if_neg hb,if_neg (fun q=>hb q.2)]
theorem FoldOk.lens {c:Conf} {s:Trs} (h:FoldOk c s):s.1.length≤1000000∧s.2.1.length≤1000000∧s.2.2.length≤1000000:=by
 have:=h.t0.l1;have:=h.t1.l1;have:=h.t2.l1;omega
theorem trs_wf {s:Trs} (h:Wf (.wrap (.pair (.slice a0d) (.pair (.slice a0d) (.slice a0d)))) s):TrsW s:=by
 obtain ⟨h1,h2,h3⟩:=h;exact ⟨r1u h1,r1u h2,r1u h3⟩
abbrev Ser:=List Lab×(Int×(Rw×(Trs×Slo)))
structure SerW (s:Ser):Prop where
 last:I64 s.2.1
 raw:RawW s.2.2.1
 trs:TrsW s.2.2.2.1
 opn:SloW s.2.2.2.2
def b0i (l:List Slo) (i:Int):Prop:=∀s∈l,0<s.2.1→s.1<i
noncomputable instance (l i):Decidable (b0i l i):=Classical.propDecidable _
structure Fresh (s:Ser):Prop where
 raw:s.2.2.1.2.2=[]
 opn:s.2.2.2.2=s0
 b0:b0i s.2.2.2.1.1 0
 b1:b0i s.2.2.2.1.2.1 0
 b2:b0i s.2.2.2.1.2.2 0
structure EndsP (c:Conf) (s:Ser):Prop where
 last:∃e,s.2.2.1.2.2.getLast? = some e∧e.1=s.2.1
 ol:s.2.2.2.2.2.2.2.1.1=s.2.1
 fit:FitsP s.2.2.2.2.2 c.2.1.1 s.2.2.2.2.1
 b0:b0i s.2.2.2.1.1 (s.2.1 / c.2.1.1)
 b1:b0i s.2.2.2.1.2.1 (s.2.1 / c.2.1.2.1)
 b2:b0i s.2.2.2.1.2.2 (s.2.1 / c.2.1.2.2)
structure SerOk (c:Conf) (s:Ser):Prop where
 fold:FoldOk c s.2.2.2.1
 lab:LabOk s.1
 raw:RawOk s.2.2.1 c.1
 st:(s.2.1 = -1∧Fresh s)∨(s.2.1 ≠ -1∧EndsP c s)
noncomputable instance (s):Decidable (Fresh s):=Classical.propDecidable _
noncomputable instance (c s):Decidable (EndsP c s):=Classical.propDecidable _
noncomputable instance (c s):Decidable (SerOk c s):=Classical.propDecidable _
theorem m1b (n:Nat) {del:a0c×Unit→Option Bool} {p:Slo→Bool} (hd:∀x,del (x,())=some (p x)) (l:List Slo) (hL:l.length≤1000000):g0h (n+2) l del=some (l.any p):=by
 rw[o0w,j0v];rcases f2x hd n l hL l [] a0b 0 l.length rfl rfl rfl (by unfold a0b;omega) with ⟨h1,h2⟩ | ⟨A,x,B,h1,h2,h3,h4⟩
 ·rw[h1];have:l.any p=false:=by rw[List.any_eq_false];intro x hx;simp[h2 x hx]
  rw[this];rfl
 ·rw[h4];have:l.any p=true:=List.any_eq_true.2 ⟨x,by rw[h1];simp,h3⟩;simp only[obs,v0q,this,Int.zero_add];rw[decide_eq_true (by omega)]
theorem d0c (n:Nat) (l:List Slo) (i:Int) (hL:l.length≤1000000):d0q (n+3) l i=some (!decide (b0i l i)):=by
 rw[z0r,m1b (p:=fun s=>decide (0<s.2.1∧i≤s.1)) n (fun x=>by
  show l0c (n+1+1) x i=_;rw[v0p]
  by_cases h1:0<x.2.1<;>by_cases h2:i≤x.1<;>simp[h1,h2]) l hL]
 simp only[obs];refine congrArg some ?_;by_cases h:b0i l i
 ·rw[decide_eq_true h];rw[List.any_eq_false.2]
  ·rfl
  ·intro x hx k;have:=of_decide_eq_true k;have:=h x hx this.1;omega
 ·rw[decide_eq_false h];have:∃x∈l,0<x.2.1∧i≤x.1:=Classical.byContradiction fun k=>h fun x hx hc=>by
   rcases Int.lt_or_le x.1 i with q | q
   ·exact q
   ·exact absurd ⟨x,hx,hc,q⟩ k
  obtain ⟨x,hx,hq⟩:=this;rw[List.any_eq_true.2 ⟨x,hx,decide_eq_true hq⟩];rfl
theorem z1t (n:Nat) (c:Conf) {s:Ser} (hf:FoldOk c s.2.2.2.1):b1d (n+4) (c,s)=some (decide (Fresh s)):=by
 obtain ⟨l0,l1,l2⟩:=hf.lens;rw[n1q,d2b,d0c n _ _ l0,d0c n _ _ l1,d0c n _ _ l2];simp only[obs,Bool.not_not,tfd];by_cases h1:(s.2.2.1.2.2.length:Int)=0
 case neg=>rw[if_neg h1,decide_eq_false (fun k:Fresh s=>h1 (by rw[k.raw];rfl))]
 rw[if_pos h1];by_cases h2:s.2.2.2.2=s0
 case neg=>rw[if_neg h2,decide_eq_false (fun k:Fresh s=>h2 k.opn)]
 rw[if_pos h2];by_cases h3:b0i s.2.2.2.1.1 0
 case neg=>rw[if_neg h3,decide_eq_false (fun k:Fresh s=>h3 k.b0)]
 rw[if_pos h3];by_cases h4:b0i s.2.2.2.1.2.1 0
 case neg=>rw[if_neg h4,decide_eq_false (fun k:Fresh s=>h4 k.b1)]
 rw[if_pos h4];refine congrArg some (decide_eq_decide.2 ⟨fun k=>⟨List.length_eq_zero_iff.1 (by omega),h2,h3,h4,k⟩,fun k=>k.b2⟩)
theorem f2h {c:Conf} {s:Ser} (hr:RawOk s.2.2.1 c.1) {e:Ev} (he:s.2.2.1.2.2.getLast? = some e):EvOk e:=hr.f.ok e (List.mem_of_getLast? he)
theorem f2t (n:Nat) (c:Conf) {s:Ser} (hf:FoldOk c s.2.2.2.1) (hr:RawOk s.2.2.1 c.1) (hw:SerW s):a1a (n+7) (c,s)=some (decide (EndsP c s)):=by
 obtain ⟨l0,l1,l2⟩:=hf.lens;have hg:=hf.cok.rng;have hlen:=hr.len;have hm1:=hr.m1;rw[r1q,v1f (n+5) s.2.2.1 (by omega)];cases hl:s.2.2.1.2.2.getLast? with
 | none =>
  simp only[obs];rw[show (decide ((3:Int)=0))=false from rfl,tff,decide_eq_false];intro k;obtain ⟨e,he,_⟩:=k.last;rw[hl] at he;cases he
 | some e =>
  have heo:=f2h hr hl;simp only[obs,decide_true,tft,tfd,if_true];by_cases h1:e.1=s.2.1
  case neg =>
   rw[if_neg h1,decide_eq_false];intro k;obtain ⟨e',he,hq⟩:=k.last;rw[hl] at he;injection he with he;subst he;exact h1 hq
  rw[if_pos h1];by_cases h2:s.2.2.2.2.2.2.2.1.1=s.2.1
  case neg=>rw[if_neg h2,decide_eq_false (fun k:EndsP c s=>h2 k.ol)]
  have q0:=v1h heo hg.w0.1;have q1:=v1h heo hg.w1.1;have q2:=v1h heo hg.w2.1;rw[h1] at q0 q1 q2;rw[if_pos h2,u0u n hw.opn.c];simp only[obs,tfd,q0,q1,q2,d0c (n+3) _ _ l0,d0c (n+3) _ _ l1,d0c (n+3) _ _ l2,Bool.not_not,if_neg (show ¬(c.2.1.1=0) by have:=hg.w0;omega),if_neg (show ¬(c.2.1.2.1=0) by have:=hg.w1;omega),if_neg (show ¬(c.2.1.2.2=0) by have:=hg.w2;omega)];by_cases h3:FitsP s.2.2.2.2.2 c.2.1.1 s.2.2.2.2.1
  case neg=>rw[if_neg h3,decide_eq_false (fun k:EndsP c s=>h3 k.fit)]
  rw[if_pos h3];by_cases h4:b0i s.2.2.2.1.1 (s.2.1 / c.2.1.1)
  case neg=>rw[if_neg h4,decide_eq_false (fun k:EndsP c s=>h4 k.b0)]
  rw[if_pos h4];by_cases h5:b0i s.2.2.2.1.2.1 (s.2.1 / c.2.1.2.1)
  case neg=>rw[if_neg h5,decide_eq_false (fun k:EndsP c s=>h5 k.b1)]
  rw[if_pos h5];refine congrArg some (decide_eq_decide.2 ⟨fun k=>⟨⟨e,hl,h1⟩,h2,h3,h4,h5,k⟩,fun k=>k.b2⟩)
theorem z08 (p:Prop) [Decidable p]:((if p then (0:Int) else 8)=0)↔p:=by by_cases h:p<;>simp[h]
theorem q0p (n:Nat) (c:Conf) {s:Ser} (hw:SerW s):o0z (n+10) c s=some (if SerOk c s then (some (c,s),0) else (none,2)):=by
 rw[d1q,a2g n c hw.trs,p0k (n+3),o1a (n+4) _ _ hw.raw];simp only[obs,tfn,tfd];by_cases h1:FoldOk c s.2.2.2.1
 case neg=>rw[if_neg (mt (z02 _).1 h1),if_neg (fun k:SerOk c s=>h1 k.fold)]
 by_cases h2:LabOk s.1
 case neg=>rw[if_pos ((z02 _).2 h1),if_neg (mt (z08 _).1 h2),if_neg (fun k:SerOk c s=>h2 k.lab)]
 by_cases h3:RawOk s.2.2.1 c.1
 case neg=>rw[if_pos ((z02 _).2 h1),if_pos ((z08 _).2 h2),if_neg (mt (z02 _).1 h3),if_neg (fun k:SerOk c s=>h3 k.raw)]
 rw[if_pos ((z02 _).2 h1),if_pos ((z08 _).2 h2),if_pos ((z02 _).2 h3),z1t (n+5) c h1,f2t (n+2) c h1 h3 hw];simp only[obs,tfd];by_cases h4:s.2.1 = -1
 ·rw[if_pos h4];by_cases h5:Fresh s
  ·rw[if_pos h5,if_pos (⟨h1,h2,h3,.inl ⟨h4,h5⟩⟩:SerOk c s)]
  ·rw[if_neg h5,if_pos h4,if_neg (fun k:SerOk c s=>by
    rcases k.st with q | q
    ·exact h5 q.2
    ·exact q.1 h4)]
 ·rw[if_neg h4,if_neg h4];by_cases h5:EndsP c s
  ·rw[if_pos h5,if_pos (⟨h1,h2,h3,.inr ⟨h4,h5⟩⟩:SerOk c s)]
  ·rw[if_neg h5,if_neg (fun k:SerOk c s=>by
    rcases k.st with q | q
    ·exact h4 q.1
    ·exact h5 q.2)]
theorem z0c {l:List Slo} {w:Int} (h:TierOk l w) (i:Int):b0i l i↔∀s∈tall l,s.1<i:=by
 constructor
 ·intro k s hs;have:=(tall_N h hs).n1;exact k s (s0j.1 hs).1 (by omega)
 ·intro k s hs hc;exact k s (s0j.2 ⟨hs,fun e=>by rw[e] at hc;simp[s0,z0] at hc⟩)
theorem c1b {l:List Slo} {w:Int} (h:TierOk l w):b0i l 0↔tall l=[]:=by
 rw[z0c h];constructor
 ·intro k;by_cases e:tall l=[]
  ·exact e
  ·obtain ⟨s,hs⟩:=List.exists_mem_of_ne_nil _ e;have:=(n0f h hs).1.i0;have:=k s hs;omega
 ·intro e s hs;rw[e] at hs;cases hs
theorem nn {α:Type} {a b:α} (h:a=b):¬(a≠b):=fun k=>k h
def ser0:Ser:=([],(0,(r0w,(([],([],[])),s0))))
def u1o (s:Ser) (i:Int):Prop:=s.2.2.2.2≠s0∧s.2.2.2.2.1≠i
noncomputable instance (s i):Decidable (u1o s i):=Classical.propDecidable _
noncomputable def turned (c:Conf) (s:Ser) (i:Int):(Trs×Slo)×Int :=
 if u1o s i then (if (z0h c s.2.2.2.1 s.2.2.2.2 i).2=0 then (((z0h c s.2.2.2.1 s.2.2.2.2 i).1,s0),0) else ((s.2.2.2.1,s.2.2.2.2),(z0h c s.2.2.2.1 s.2.2.2.2 i).2)) else ((s.2.2.2.1,s.2.2.2.2),0)
noncomputable def putE (c:Conf) (s:Ser) (e:Ev):Ser×Int :=
 if SerOk c s∧EvOk e then
  (if e.1≤s.2.1 then (ser0,9)
   else if (turned c s (e.1 / c.2.1.1)).2≠0 then (ser0,(turned c s (e.1 / c.2.1.1)).2)
   else if (q0r s.2.2.1 c.1 e).2≠0 then (ser0,(q0r s.2.2.1 c.1 e).2)
   else if (mrgE (turned c s (e.1 / c.2.1.1)).1.2.2 (d0t e)).2≠0 then (ser0,(mrgE (turned c s (e.1 / c.2.1.1)).1.2.2 (d0t e)).2)
   else ((s.1,(e.1,((q0r s.2.2.1 c.1 e).1,((turned c s (e.1 / c.2.1.1)).1.1,(e.1 / c.2.1.1,(mrgE (turned c s (e.1 / c.2.1.1)).1.2.2 (d0t e)).1))))),0))
 else (ser0,2)
theorem o1n {c:Conf} {s:Ser} (h:SerOk c s):s.2.2.2.2.2.1=0↔s.2.2.2.2=s0:=by
 constructor
 ·intro k;rcases h.st with q | q
  ·exact q.2.opn
  ·have:=q.2.fit.n.n1;omega
 ·intro k;rw[k];rfl
theorem turned_w {c:Conf} {s:Ser} (hw:SerW s) (i:Int):SloW (turned c s i).1.2:=by
 unfold turned;split
 ·split
  ·exact j1l
  ·exact hw.opn
 ·exact hw.opn
theorem f2s (n:Nat) (c:Conf) {s:Ser} (h:SerOk c s) (hw:SerW s) (i:Int):j1j (n+22) (c,s) i=some ((turned c s i).2,(c,(s.1,(s.2.1,(s.2.2.1,(turned c s i).1))))):=by
 rw[r1p];simp only[tfd,a2f n c hw.trs hw.opn i,obs];unfold turned;by_cases h1:s.2.2.2.2.1=i
 ·rw[if_pos h1,if_neg (fun k:u1o s i=>k.2 h1)]
 rw[if_neg h1];by_cases h2:s.2.2.2.2.2.1=0
 ·rw[if_pos h2,if_neg (fun k:u1o s i=>k.1 ((o1n h).1 h2))]
 have ht:u1o s i:=⟨fun k=>h2 ((o1n h).2 k),h1⟩;rw[if_neg h2,if_pos ht];by_cases h3:(z0h c s.2.2.2.1 s.2.2.2.2 i).2=0
 ·rw[if_pos h3,if_pos h3,h3];rfl
 ·rw[if_neg h3,if_neg h3]
theorem y1h (n:Nat) (c:Conf) {s:Ser} (hw:SerW s) {e:Ev} (he:EvW e):x0j (n+23) c s e=some (putE c s e):=by
 rw[j1o,q0p (n+12) c hw,g0s _ he];unfold putE;by_cases h1:SerOk c s
 case neg=>rw[if_neg h1,if_neg (fun k:SerOk c s∧EvOk e=>h1 k.1)];rfl
 rw[if_pos h1];have hg:=h1.fold.cok.rng;simp only[obs,s0h,decide_true,Bool.not_true,tff,tfn,tfd];by_cases h2:EvOk e
 case neg=>rw[if_neg (mt (z02 _).1 h2),if_neg (fun k:SerOk c s∧EvOk e=>h2 k.2)];rfl
 rw[if_pos ((z02 _).2 h2),if_pos (And.intro h1 h2)];by_cases h3:e.1≤s.2.1
 ·rw[if_pos h3,if_pos h3];rfl
 rw[if_neg h3,if_neg h3,if_neg (show ¬(c.2.1.1=0) by have:=hg.w0;omega),v1h h2 hg.w0.1,f2s n c h1 hw];generalize ht:turned c s (e.1 / c.2.1.1)=t;have htw:=turned_w (c:=c) hw (e.1 / c.2.1.1);rw[ht] at htw;simp only[obs];by_cases h4:t.2=0
 case neg=>rw[if_neg h4,if_pos h4];rfl
 rw[if_pos h4,if_neg (nn h4),x1s,raw_put (n+15) c.1 hw.raw he,cell_add (n+14) htw.c he,if_pos h2];simp only[obs,tfn,tfd];by_cases h5:(q0r s.2.2.1 c.1 e).2=0
 case neg =>
  rw[if_neg h5,if_pos h5];simp only[obs];rw[if_neg h5];rfl
 rw[if_pos h5,if_neg (nn h5)];simp only[obs];by_cases h6:(mrgE t.1.2.2 (d0t e)).2=0
 ·rw[if_pos h6,if_neg (nn h6)];simp only[if_true]
 ·rw[if_neg h6,if_pos h6];rfl
end Go.Proofs.YtjffajodppnejaaGreatDoor

namespace Go.Plim
set_option linter.unusedVariables false
def below (w:Int) (l:List Ev) (t:Int):List Ev:=l.filter fun e=>decide (e.1 / w<t / w)
structure EndsAt (l:List Ev) (t:Int):Prop where
 foll:Foll l
 le:∀e∈l,e.1≤t
 last:∃e∈l,e.1=t
theorem EndsAt.wle {l:List Ev} {t:Int} (h:EndsAt l t) {w:Int} (hw:1≤w):∀e∈l,e.1 / w≤t / w:=fun e he=>Int.ediv_le_ediv (by omega) (h.le e he)
theorem a2t {l:List Ev} {t:Int} (h:EndsAt l t) {w:Int} (hw:1≤w):l=below w l t++win w l (t / w):=by
 have key:∀(m:List Ev),(∀e∈m,e.1 / w≤t / w)→m.Pairwise (fun a b=>a.1 / w≤b.1 / w)→m=below w m t++win w m (t / w):=by
  intro m;induction m with
  | nil=>intro _ _;rfl
  | cons x m ih =>
   intro h1 h2;rw[List.pairwise_cons] at h2;have ih':=ih (fun e he=>h1 e (by simp[he])) h2.2;have hx:=h1 x (by simp);unfold below win at *
   by_cases c:x.1 / w<t / w
   ·rw[List.filter_cons_of_pos (by simpa using c),List.filter_cons_of_neg (by simp;omega),List.cons_append,←ih']
   ·have e0:m.filter (fun e=>decide (e.1 / w<t / w))=[]:=by
     rw[List.filter_eq_nil_iff];intro y hy;have:=h2.1 y hy;simp;omega
    rw[List.filter_cons_of_neg (by simpa using c),List.filter_cons_of_pos (by simp;omega),e0,List.nil_append];rw[e0,List.nil_append] at ih';rw[←ih']
 exact key l (h.wle hw) (foll_wd hw h.foll)
theorem b2z (t:List Slo) (i:Int) (a b:Cel):tput (tput t i a) i b=tput t i b:=by
 unfold tput;rw[List.length_set,List.set_set]
theorem j1c {t:List Slo} {w a:Int} {l:List Ev} (h:TierInv t w l):∀(n:Nat) (B:List Ev),B.length=n+1→Foll (l++B)→(∀e∈B,e.1 / w=a) →
  FitsP (cellOf (win w (l++B) a)) w a∧TierInv (tput t a (cellOf (win w (l++B) a))) w (l++B):=by
 intro n;induction n with
 | zero =>
  intro B hB hf ha
  match B,hB with
  | [e],_ =>
   have he:=ha e (by simp);have:=a1w h hf;rw[he] at this;rw[win_snoc,if_pos he];exact this
 | succ n ih =>
  intro B hB hf ha;rcases List.eq_nil_or_concat B with rfl | ⟨B',e,rfl⟩
  ·cases hB
  rw[List.concat_eq_append] at *
  have he:=ha e (by simp);have hf':Foll (l++B'++[e]):=by rw[List.append_assoc];exact hf
  obtain ⟨h1,h2⟩:=ih B' (by simp at hB;exact hB) (d0h.1 hf').1 (fun x hx=>ha x (by simp[hx]));have:=a1w h2 hf';rw[he,b2z,List.append_assoc] at this;rw[←List.append_assoc,win_snoc,if_pos he];rw[List.append_assoc];exact this
theorem j1b {s:List Slo} {w:Int} {l:List Ev} {t:Int} (he:EndsAt l t) (h:TierInv s w (below w l t)):FitsP (cellOf (win w l (t / w))) w (t / w)∧TierInv (tput s (t / w) (cellOf (win w l (t / w)))) w l:=by
 have hw:=h.ok.w0;have hs:=a2t he hw;obtain ⟨e,hel,het⟩:=he.last;have hne:win w l (t / w)≠[]:=fun k=>by
  have:e∈win w l (t / w):=x0u.2 ⟨hel,by rw[het]⟩;rw[k] at this;cases this
 have hlen:(win w l (t / w)).length=((win w l (t / w)).length-1)+1:=by have:=List.length_pos_iff.2 hne;omega
 have:=j1c h _ (win w l (t / w)) hlen (by rw[←hs];exact he.foll) (fun x hx=>(x0u.1 hx).2);rw[←hs] at this;exact this
theorem edvm {t a b:Int} (ha:1≤a) (hb:1≤b) (hm:b % a=0):t / a*a / b=t / b∧t / a / (b / a)=t / b:=by
 have e:a*(b / a)=b:=by have:=Int.mul_ediv_add_emod b a;omega
 have h1:t / a / (b / a)=t / b:=by rw[Int.ediv_ediv_of_nonneg (by omega),e]
 refine ⟨?_,h1⟩;rw[←h1]
 conv=>lhs;rw[←e,Int.mul_comm (t / a) a]
 exact Int.mul_ediv_mul_of_pos _ _ (by omega)
end Go.Plim
namespace Go.Proofs.YtjffajodppnejaaGreatDoor
open Go.Flat Go.Plim
structure FInv (c:Conf) (s:Trs) (l:List Ev) (t:Int):Prop where
 ok:FoldOk c s
 i0:TierInv s.1 c.2.1.1 (below c.2.1.1 l t)
 i1:TierInv s.2.1 c.2.1.2.1 (below c.2.1.2.1 l t)
 i2:TierInv s.2.2 c.2.1.2.2 (below c.2.1.2.2 l t)
theorem OkC.m02 {c:Conf} (h:OkC c):c.2.1.2.2 % c.2.1.1=0:=by
 have h1:=Int.dvd_of_emod_eq_zero h.m1;have h2:=Int.dvd_of_emod_eq_zero h.m2;exact Int.emod_eq_zero_of_dvd (Int.dvd_trans h1 h2)
end Go.Proofs.YtjffajodppnejaaGreatDoor
namespace Go.Proofs.YtjffajodppnejaaGreatDoor
open Go.Flat Go.Plim
set_option linter.unusedVariables false
set_option linter.unusedSimpArgs false
theorem y1j {c:Conf} {s:Ser} (h:SerOk c s) (hn:¬(s.2.1 = -1)):EndsP c s∧∃e,EvOk e∧e.1=s.2.1:=by
 rcases h.st with q | q
 ·exact absurd q.1 hn
 ·obtain ⟨e,he,h1⟩:=q.2.last;exact ⟨q.2,e,f2h h.raw he,h1⟩
structure At (c:Conf) (s:Ser):Prop where
 l0:0≤s.2.1
 l1:s.2.1<35184372088832
theorem serOk_at {c:Conf} {s:Ser} (h:SerOk c s) (hn:¬(s.2.1 = -1)):0≤s.2.1∧s.2.1<35184372088832:=by
 obtain ⟨_,e,he,h1⟩:=y1j h hn;rw[←h1];exact ⟨he.t0,he.t1⟩
theorem x1u (n f:Nat) (s:Trs):d0r n (f+1) (s,(3:Int),())=some (.inl ()):=by
 rw[h0o,show (decide ((3:Int)<3))=false from rfl,tff]
theorem x1v (n f:Nat) (s:Trs):d0r n (f+2) (s,(2:Int),())=some (if (40:Int)<s.2.2.length then .inr 0 else .inl ()):=by
 rw[h0o,show (decide ((2:Int)<3))=true from rfl,tft,show (decide ((2:Int)=0))=false from rfl,tff,show (decide ((2:Int)=1))=false from rfl,tff,show (decide ((2:Int)=2))=true from rfl,tft];rw[show IntKind.wrap .i64 ((2:Int)+1)=3 from rfl,x1u];simp only[tfd];split<;>rfl
theorem x1w (n f:Nat) (s:Trs):d0r n (f+3) (s,(1:Int),())=some (if (40:Int)<s.2.1.length∨(40:Int)<s.2.2.length then .inr 0 else .inl ()):=by
 rw[h0o,show (decide ((1:Int)<3))=true from rfl,tft,show (decide ((1:Int)=0))=false from rfl,tff,show (decide ((1:Int)=1))=true from rfl,tft];rw[show IntKind.wrap .i64 ((1:Int)+1)=2 from rfl,x1v];simp only[tfd];by_cases h:(40:Int)<s.2.1.length
 ·rw[if_pos h,if_pos (.inl h)]
 ·rw[if_neg h];by_cases h':(40:Int)<s.2.2.length
  ·rw[if_pos h',if_pos (.inr h')]
  ·rw[if_neg h',if_neg (fun k=>k.elim h h')]
theorem x1x (n f:Nat) (s:Trs):d0r n (f+4) (s,(0:Int),())=some (if (40:Int)<s.1.length∨(40:Int)<s.2.1.length∨(40:Int)<s.2.2.length then .inr 0 else .inl ()):=by
 rw[h0o,show (decide ((0:Int)<3))=true from rfl,tft,show (decide ((0:Int)=0))=true from rfl,tft];rw[show IntKind.wrap .i64 ((0:Int)+1)=1 from rfl,x1w];simp only[tfd];by_cases h:(40:Int)<s.1.length
 ·rw[if_pos h,if_pos (.inl h)]
 ·rw[if_neg h];by_cases h':(40:Int)<s.2.1.length∨(40:Int)<s.2.2.length
  ·rw[if_pos h',if_pos (.inr h')]
  ·rw[if_neg h',if_neg (fun k=>k.elim h h')]
def y0p (s:Trs):Prop:=s.1.length≤40∧s.2.1.length≤40∧s.2.2.length≤40
instance (s:Trs):Decidable (y0p s):=by unfold y0p;infer_instance
theorem f2l (n:Nat) (s:Trs):c1g (n+1) s=some (if y0p s then 1 else 0):=by
 rw[p1a,show a0b=(2^70-4)+4 from by decide,x1x];by_cases h:y0p s
 ·rw[if_pos h,if_neg (by unfold y0p at h;omega)];rfl
 ·rw[if_neg h,if_pos (by unfold y0p at h;omega)];rfl
theorem r05_same_l (n:Nat) (l:List Lab) (hL:l.length≤1000000):∀(rest pre:List Lab) (f:Nat) (ix len:Int),l=pre++rest→ix=pre.length→len=l.length→rest.length<f→l0f n f (l,l,len,ix,())=some (.inl ()):=by
 intro rest;induction rest with
 | nil =>
  intro pre f ix len hl hi hn hf;obtain ⟨f,rfl⟩:∃g,f=g+1:=⟨f-1,by simp at hf;omega⟩;rw[i0t];simp only[tfd,if_neg (idxe hl hi hn)]
 | cons x rest ih =>
  intro pre f ix len hl hi hn hf;obtain ⟨f,rfl⟩:∃g,f=g+1:=⟨f-1,by simp at hf;omega⟩;rw[i0t];simp only[tfd,if_pos (idx hl hi hn),b0v hl hi,obs,labEq,decide_true,Bool.not_true,tff,idxw hl hi (by omega)];exact ih (pre++[x]) f (ix+1) len (idxl hl) (idxs hi) hn (by simp at hf;omega)
structure SerL (s:Ser):Prop where
 l:s.1.length≤1000000
 r:s.2.2.1.2.2.length≤1000000
 a:s.2.2.2.1.1.length≤1000000
 b:s.2.2.2.1.2.1.length≤1000000
 d:s.2.2.2.1.2.2.length≤1000000
theorem y0t (n:Nat) (c:Conf) {s:Ser} (hw:SerW s):l0x (n+11) c s=some (if SerOk c s then 0 else 2):=by
 rw[b1m,q0p n c hw];by_cases h:SerOk c s
 ·rw[if_pos h,if_pos h];rfl
 ·rw[if_neg h,if_neg h];rfl
theorem c2z (n:Nat) (l:List Lab) (hL:l.length≤9223372036854775807):∀(rest pre:List Lab) (f:Nat) (ix len:Int),l=pre++rest→ix=pre.length→len=l.length→rest.length<f →
  f0k n f (l,len,ix,())=some (.inl ())∨f0k n f (l,len,ix,())=some (.inr 0):=by
 intro rest;induction rest with
 | nil =>
  intro pre f ix len hl hi hn hf;obtain ⟨f,rfl⟩:∃g,f=g+1:=⟨f-1,by simp at hf;omega⟩;left;rw[h0p];simp only[tfd,if_neg (idxe hl hi hn)]
 | cons x rest ih =>
  intro pre f ix len hl hi hn hf;obtain ⟨f,rfl⟩:∃g,f=g+1:=⟨f-1,by simp at hf;omega⟩;have hlen:=congrArg List.length hl;simp at hlen;rw[h0p];simp only[tfd,if_pos (idx hl hi hn),b0v hl hi,obs];rw[w64 (x:=ix+1) (by omega) (by omega)];by_cases h1:ix=40
  ·right;rw[if_pos h1]
  rw[if_neg h1];by_cases h2:(1000:Int)<x.1.length
  ·right;rw[if_pos h2]
  rw[if_neg h2];by_cases h3:(1000:Int)<x.2.length
  ·right;rw[if_pos h3]
  rw[if_neg h3];exact ih (pre++[x]) f (ix+1) len (idxl hl) (idxs hi) hn (by simp at hf;omega)
theorem f2n (n:Nat) (l:List Lab) (hL:l.length≤9223372036854775807):l0j (n+1) l=some 0∨l0j (n+1) l=some 1:=by
 rw[z0d];rcases c2z n l hL l [] a0b 0 _ rfl rfl rfl (by unfold a0b;omega) with h | h
 ·right;rw[h];rfl
 ·left;rw[h];rfl
theorem f2k (n:Nat) (s:Ser) (hL:s.1.length≤9223372036854775807):w0g (n+2) s=some 0∨w0g (n+2) s=some 1:=by
 rw[o1z];rcases f2n n s.1 hL with h | h
 ·left;rw[h];rfl
 ·rw[h];simp only[obs,tfd,if_neg (show ¬((1:Int)=0) by omega)];by_cases h1:(60:Int)<s.2.2.1.2.2.length
  ·left;rw[if_pos h1]
  rw[if_neg h1,f2l];simp only[obs];split
  ·right;rfl
  ·left;rfl
theorem ser_wf {s:Ser} (h:Wf b0f s):SerW s:=by
 obtain ⟨h1,h2,h3,h4,h5⟩:=h;refine ⟨h2,?_,trs_wf h4,slo_wf h5⟩;intro e he;exact ev_wf (h3.2.2.2 e he)
theorem u0i (n:Nat) (a b:List Lab) (hL:a.length≤9223372036854775807):∀(ra rb pa pb:List Lab) (f:Nat) (ix len:Int),a=pa++ra→b=pb++rb→pa.length=pb.length→ra.length=rb.length→ix=pa.length→len=a.length→ra.length<f →
  f0u n f (a,b,len,ix,())=some (if ra=rb then .inl () else .inr false):=by
 intro ra;induction ra with
 | nil =>
  intro rb pa pb f ix len ha hb hp hr hi hn hf;obtain ⟨f,rfl⟩:∃g,f=g+1:=⟨f-1,by simp at hf;omega⟩;have e:rb=[]:=List.length_eq_zero_iff.1 (by simpa using hr.symm);subst e;rw[j0w,decide_eq_false (idxe ha hi hn),tff,if_pos rfl]
 | cons x ra ih =>
  intro rb pa pb f ix len ha hb hp hr hi hn hf;obtain ⟨f,rfl⟩:∃g,f=g+1:=⟨f-1,by simp at hf;omega⟩;cases rb with
  | nil=>simp at hr
  | cons y rb =>
   have hlen:=congrArg List.length ha;simp at hlen;rw[j0w,decide_eq_true (idx ha hi hn),tft,b0v ha hi,b0v hb (by omega)];simp only[obs,labEq];rw[w64 (x:=ix+1) (by omega) (by omega)];by_cases h:x=y
   ·subst h;simp only[decide_true,Bool.not_true,tff];rw[ih rb (pa++[x]) (pb++[x]) f (ix+1) len (idxl ha) (idxl hb) (by simp;omega) (by simpa using hr) (idxs hi) hn (by simp at hf;omega)];simp
   ·rw[if_neg (by simp[h])];simp only[decide_eq_false h,Bool.not_false,tft]
theorem o0b (n:Nat) (a b:List Lab) (hL:a.length≤9223372036854775807):m0r (n+1) a b=some (decide (a=b)):=by
 rw[x0e];by_cases h:a.length=b.length
 ·rw[decide_eq_true (show ((a.length:Nat):Int)=(b.length:Nat) by omega)];simp only[Bool.not_true,tff];rw[u0i n a b hL a b [] [] a0b 0 _ rfl rfl rfl h rfl rfl (by unfold a0b;omega)];by_cases h':a=b
  ·rw[if_pos h',decide_eq_true h'];rfl
  ·rw[if_neg h',decide_eq_false h'];rfl
 ·rw[decide_eq_false (show ¬((a.length:Nat):Int)=(b.length:Nat) by omega),decide_eq_false (fun k:a=b=>h (by rw[k]))];rfl
theorem u0j (n:Nat) (a b:List Ev) (hL:a.length≤9223372036854775807):∀(ra rb pa pb:List Ev) (f:Nat) (ix len:Int),a=pa++ra→b=pb++rb→pa.length=pb.length→ra.length=rb.length→ix=pa.length→len=a.length→ra.length<f →
  f0v n f (a,b,len,ix,())=some (if ra=rb then .inl () else .inr false):=by
 intro ra;induction ra with
 | nil =>
  intro rb pa pb f ix len ha hb hp hr hi hn hf;obtain ⟨f,rfl⟩:∃g,f=g+1:=⟨f-1,by simp at hf;omega⟩;have e:rb=[]:=List.length_eq_zero_iff.1 (by simpa using hr.symm);subst e;rw[j0x,decide_eq_false (idxe ha hi hn),tff,if_pos rfl]
 | cons x ra ih =>
  intro rb pa pb f ix len ha hb hp hr hi hn hf;obtain ⟨f,rfl⟩:∃g,f=g+1:=⟨f-1,by simp at hf;omega⟩;cases rb with
  | nil=>simp at hr
  | cons y rb =>
   have hlen:=congrArg List.length ha;simp at hlen;rw[j0x,decide_eq_true (idx ha hi hn),tft,b0v ha hi,b0v hb (by omega)];simp only[obs,evEq];rw[w64 (x:=ix+1) (by omega) (by omega)];by_cases h:x=y
   ·subst h;simp only[decide_true,Bool.not_true,tff];rw[ih rb (pa++[x]) (pb++[x]) f (ix+1) len (idxl ha) (idxl hb) (by simp;omega) (by simpa using hr) (idxs hi) hn (by simp at hf;omega)];simp
   ·rw[if_neg (by simp[h])];simp only[decide_eq_false h,Bool.not_false,tft]
theorem y0e (n:Nat) (a b:List Ev) (hL:a.length≤9223372036854775807):m0s (n+1) a b=some (decide (a=b)):=by
 rw[x0f];by_cases h:a.length=b.length
 ·rw[decide_eq_true (show ((a.length:Nat):Int)=(b.length:Nat) by omega)];simp only[Bool.not_true,tff];rw[u0j n a b hL a b [] [] a0b 0 _ rfl rfl rfl h rfl rfl (by unfold a0b;omega)];by_cases h':a=b
  ·rw[if_pos h',decide_eq_true h'];rfl
  ·rw[if_neg h',decide_eq_false h'];rfl
 ·rw[decide_eq_false (show ¬((a.length:Nat):Int)=(b.length:Nat) by omega),decide_eq_false (fun k:a=b=>h (by rw[k]))];rfl
theorem w0n (n:Nat) (a b:List Slo) (hL:a.length≤9223372036854775807):∀(ra rb pa pb:List Slo) (f:Nat) (ix len:Int),a=pa++ra→b=pb++rb→pa.length=pb.length→ra.length=rb.length→ix=pa.length→len=a.length→ra.length<f →
  g0q n f (a,b,len,ix,())=some (if ra=rb then .inl () else .inr false):=by
 intro ra;induction ra with
 | nil =>
  intro rb pa pb f ix len ha hb hp hr hi hn hf;obtain ⟨f,rfl⟩:∃g,f=g+1:=⟨f-1,by simp at hf;omega⟩;have e:rb=[]:=List.length_eq_zero_iff.1 (by simpa using hr.symm);subst e;rw[l0a,decide_eq_false (idxe ha hi hn),tff,if_pos rfl]
 | cons x ra ih =>
  intro rb pa pb f ix len ha hb hp hr hi hn hf;obtain ⟨f,rfl⟩:∃g,f=g+1:=⟨f-1,by simp at hf;omega⟩;cases rb with
  | nil=>simp at hr
  | cons y rb =>
   have hlen:=congrArg List.length ha;simp at hlen;rw[l0a,decide_eq_true (idx ha hi hn),tft,b0v ha hi,b0v hb (by omega)];simp only[obs,sloEq];rw[w64 (x:=ix+1) (by omega) (by omega)];by_cases h:x=y
   ·subst h;simp only[decide_true,Bool.not_true,tff];rw[ih rb (pa++[x]) (pb++[x]) f (ix+1) len (idxl ha) (idxl hb) (by simp;omega) (by simpa using hr) (idxs hi) hn (by simp at hf;omega)];simp
   ·rw[if_neg (by simp[h])];simp only[decide_eq_false h,Bool.not_false,tft]
theorem j0q (n:Nat) (a b:List Slo) (hL:a.length≤9223372036854775807):h0g (n+1) a b=some (decide (a=b)):=by
 rw[z0o];by_cases h:a.length=b.length
 ·rw[decide_eq_true (show ((a.length:Nat):Int)=(b.length:Nat) by omega)];simp only[Bool.not_true,tff];rw[w0n n a b hL a b [] [] a0b 0 _ rfl rfl rfl h rfl rfl (by unfold a0b;omega)];by_cases h':a=b
  ·rw[if_pos h',decide_eq_true h'];rfl
  ·rw[if_neg h',decide_eq_false h'];rfl
 ·rw[decide_eq_false (show ¬((a.length:Nat):Int)=(b.length:Nat) by omega),decide_eq_false (fun k:a=b=>h (by rw[k]))];rfl
theorem l1t (n:Nat) (a b:List Lab) (hL:a.length≤9223372036854775807):∀(ra rb pa pb:List Lab) (f:Nat) (ix len:Int),a=pa++ra→b=pb++rb→pa.length=pb.length→ra.length=rb.length→ix=pa.length→len=a.length→ra.length<f →
  l0f n f (a,b,len,ix,())=some (if ra=rb then .inl () else .inr false):=by
 intro ra;induction ra with
 | nil =>
  intro rb pa pb f ix len ha hb hp hr hi hn hf;obtain ⟨f,rfl⟩:∃g,f=g+1:=⟨f-1,by simp at hf;omega⟩;have e:rb=[]:=List.length_eq_zero_iff.1 (by simpa using hr.symm);subst e;rw[i0t,decide_eq_false (idxe ha hi hn),tff,if_pos rfl]
 | cons x ra ih =>
  intro rb pa pb f ix len ha hb hp hr hi hn hf;obtain ⟨f,rfl⟩:∃g,f=g+1:=⟨f-1,by simp at hf;omega⟩;cases rb with
  | nil=>simp at hr
  | cons y rb =>
   have hlen:=congrArg List.length ha;simp at hlen;rw[i0t,decide_eq_true (idx ha hi hn),tft,b0v ha hi,b0v hb (by omega)];simp only[obs,labEq];rw[w64 (x:=ix+1) (by omega) (by omega)];by_cases h:x=y
   ·subst h;simp only[decide_true,Bool.not_true,tff];rw[ih rb (pa++[x]) (pb++[x]) f (ix+1) len (idxl ha) (idxl hb) (by simp;omega) (by simpa using hr) (idxs hi) hn (by simp at hf;omega)];simp
   ·rw[if_neg (by simp[h])];simp only[decide_eq_false h,Bool.not_false,tft]
theorem c1n (n:Nat) (a b:List Lab) (hL:a.length≤9223372036854775807):a1c (n+1) a b=some (decide (a=b)):=by
 rw[s1l];by_cases h:a.length=b.length
 ·rw[decide_eq_true (show ((a.length:Nat):Int)=(b.length:Nat) by omega)];simp only[Bool.not_true,tff];rw[l1t n a b hL a b [] [] a0b 0 _ rfl rfl rfl h rfl rfl (by unfold a0b;omega)];by_cases h':a=b
  ·rw[if_pos h',decide_eq_true h'];rfl
  ·rw[if_neg h',decide_eq_false h'];rfl
 ·rw[decide_eq_false (show ¬((a.length:Nat):Int)=(b.length:Nat) by omega),decide_eq_false (fun k:a=b=>h (by rw[k]))];rfl
noncomputable instance decSer (a b:Ser):Decidable (a=b):=Classical.propDecidable _
structure SerM (s:Ser):Prop where
 l:s.1.length≤9223372036854775807
 r:s.2.2.1.2.2.length≤9223372036854775807
 a:s.2.2.2.1.1.length≤9223372036854775807
 b:s.2.2.2.1.2.1.length≤9223372036854775807
 d:s.2.2.2.1.2.2.length≤9223372036854775807
theorem b1l (n:Nat) (a b:Ser) (h:SerM a):f0i (n+3) a b=some (decide (a=b)):=by
 rw[d1r,w0d,s1g,o0b n _ _ h.l,y0e n _ _ h.r,j0q (n+1) _ _ h.a,j0q (n+1) _ _ h.b,j0q (n+1) _ _ h.d];obtain ⟨a1,a2,⟨r1,r2,r3⟩,⟨t1,t2,t3⟩,a5⟩:=a;obtain ⟨b1,b2,⟨q1,q2,q3⟩,⟨u1,u2,u3⟩,b5⟩:=b;simp only[obs,sloEq,tfd];by_cases h1:a1=b1
 case neg=>simp[h1]
 by_cases h2:a2=b2
 case neg=>simp[h1,h2]
 by_cases h3:r1=q1
 case neg=>simp[h1,h2,h3]
 by_cases h4:r2=q2
 case neg=>simp[h1,h2,h3,h4]
 by_cases h5:r3=q3
 case neg=>simp[h1,h2,h3,h4,h5]
 by_cases h6:t1=u1
 case neg=>simp[h1,h2,h3,h4,h5,h6]
 by_cases h7:t2=u2
 case neg=>simp[h1,h2,h3,h4,h5,h6,h7]
 by_cases h8:t3=u3
 case neg=>simp[h1,h2,h3,h4,h5,h6,h7,h8]
 by_cases h9:a5=b5
 case neg=>simp[h1,h2,h3,h4,h5,h6,h7,h8,h9]
 simp[h1,h2,h3,h4,h5,h6,h7,h8,h9]
def oldV (now w m:Int):Int×Int:=if OfP now w∧1≤m∧m≤4096 then (if 0<now / w+1-m then now / w+1-m else 0,0) else (0,1)
theorem b2t (n:Nat) (now w m:Int):a1s (n+4) now w m=some (oldV now w m):=by
 rw[m1y,wi_of n now w,m1w];unfold oldV;by_cases h:OfP now w
 case neg=>rw[if_neg h,if_neg (fun k=>h k.1)];rfl
 rw[if_pos h];have hq:=o1c h;simp only[obs,decide_true,Bool.not_true,tff];by_cases h1:1≤m
 case neg=>simp[h,h1]
 by_cases h2:m≤4096
 case neg=>simp[h,h1,h2]
 rw[w64 (x:=now / w+1) (by omega) (by omega),w64 (x:=now / w+1-m) (by omega) (by omega)];simp[h,h1,h2]
noncomputable def f1e (t now w m:Int):Bool:=decide (OfP t w∧(oldV now w m).2=0∧t / w<(oldV now w m).1)
theorem q1w (n:Nat) (t now w m:Int):a1t (n+5) t now w m=some (f1e t now w m):=by
 rw[x1j,wi_of (n+1) t w,b2t n now w m];unfold f1e;simp only[obs,tfd];by_cases h:OfP t w
 case neg=>rw[if_neg h,if_neg (by simp),decide_eq_false (fun k=>h k.1)]
 rw[if_pos h,if_pos rfl];by_cases h1:(oldV now w m).2=0
 ·rw[if_pos h1];exact congrArg some (decide_eq_decide.2 ⟨fun k=>⟨h,h1,k⟩,fun k=>k.2.2⟩)
 ·rw[if_neg h1,decide_eq_false (fun k=>h1 k.2.1)]
noncomputable def h2j (c:Conf) (last now:Int):Bool :=
 decide (OkC c)&&(f1e last now c.2.1.1 c.2.2.1.1&&(f1e last now c.2.1.2.1 c.2.2.1.2.1&&f1e last now c.2.1.2.2 c.2.2.1.2.2))
theorem r1x (n:Nat) (c:Conf) (last now:Int):t0v (n+6) c last now=some (h2j c last now):=by
 rw[d1s,k0t (n+2) c,q1w n,q1w n,q1w n];unfold h2j;by_cases h:OkC c
 case neg=>rw[if_neg h,decide_eq_false h];rfl
 rw[if_pos h,decide_eq_true h];simp only[obs,decide_true,tft,Bool.true_and];cases f1e last now c.2.1.1 c.2.2.1.1<;>cases f1e last now c.2.1.2.1 c.2.2.1.2.1<;>cases f1e last now c.2.1.2.2 c.2.2.1.2.2<;>rfl
noncomputable def newV (c:Conf) (l:List Lab):Ser×Int :=
 if OkC c then (if LabOk l then ((l,(-1,(r0w,(emp c,s0)))),0) else (ser0,8)) else (ser0,2)
theorem u1c (n:Nat) (l:List Lab) (h:l.length≤1000000):m0t (n+1) l=some l:=by
 rw[x0g,decide_eq_true (show (0+l.length)*32≤140737488355328 by omega)];simp only[tft,List.nil_append];by_cases h0:l.length=0
 ·rw[decide_eq_true h0,tft,List.length_eq_zero_iff.1 h0,c1y]
 ·rw[decide_eq_false h0,tff]
theorem y1i (n:Nat) (c:Conf) (l:List Lab):s0c (n+7) c l=some (newV c l):=by
 rw[j1p,k0t (n+3) c,p0k n l];unfold newV;by_cases h:OkC c
 case neg=>rw[if_neg h,if_neg h];rfl
 rw[if_pos h,if_pos h];simp only[obs,decide_true,Bool.not_true,tff];by_cases h1:LabOk l
 case neg=>rw[if_neg h1,if_neg h1];rfl
 rw[if_pos h1,if_pos h1,u1c (n+5) l (by have:=h1.n1;omega),a2e (n+2) c];rfl
abbrev Sta:=Conf×(Int×(Int×List Ser))
structure StaW (s:Sta):Prop where
 len:s.2.2.2.length≤9223372036854775807
 ser:∀x∈s.2.2.2,SerW x∧SerM x
def Whole (s:Sta):Prop:=OkC s.1∧(s.2.2.2.length:Int)=s.1.2.2.2.1
noncomputable instance (s):Decidable (Whole s):=Classical.propDecidable _
def LvX (s:Sta) (x:Ser):Prop:=x≠ser0∧(s.2.2.1 = -1∨h2j s.1 x.2.1 s.2.2.1=false)
noncomputable instance (s x):Decidable (LvX s x):=Classical.propDecidable _
def y0o (t:Int):Prop:=0≤t∧t<35184372088832
instance (t):Decidable (y0o t):=by unfold y0o;infer_instance
def Clock (s:Sta):Prop:=y0o s.2.1∧(s.2.2.1 = -1∨y0o s.2.2.1)∧s.2.2.1≤s.2.1
instance (s):Decidable (Clock s):=by unfold Clock;infer_instance
def mk (s:Sta):Int:=s.2.1 / s.1.2.1.1*s.1.2.1.1
def Twin (s:Sta) (i:Nat) (x:Ser):Prop:=LvX s x∧∃k,k<i∧∃y,s.2.2.2[k]? = some y∧LvX s y∧y.1=x.1
noncomputable instance (s i x):Decidable (Twin s i x):=Classical.propDecidable _
def q0e (s:Sta) (i:Nat) (x:Ser):Prop:=x=ser0∨(SerOk s.1 x∧0≤x.2.1∧x.2.1<mk s+s.1.2.1.1∧¬Twin s i x)
noncomputable instance (s i x):Decidable (q0e s i x):=Classical.propDecidable _
structure StaOk (s:Sta):Prop where
 whole:Whole s
 clock:Clock s
 right:∀(i:Nat) x,s.2.2.2[i]? = some x→q0e s i x
noncomputable instance (s):Decidable (StaOk s):=Classical.propDecidable _
theorem Whole.len {s:Sta} (h:Whole s):s.2.2.2.length≤65536:=by
 have:=h.1.rng.cap;have:=h.2;omega
theorem f1p {α:Type} {l:List α} {i:Nat} {x:α} (h:l[i]? = some x):at? l (i:Int)=some x:=by
 unfold at?;rw[decide_eq_true (show (0:Int)≤(i:Int) by omega),Int.toNat_natCast];exact h
theorem StaW.at {s:Sta} (h:StaW s) {i:Nat} {x:Ser} (hx:s.2.2.2[i]? = some x):SerW x∧SerM x:=h.ser x (List.mem_of_getElem? hx)
theorem v1a (n:Nat) {x:Ser} (h:SerM x):v0b (n+4) x=some (decide (x=ser0)):=by
 have:=b1l n x ser0 h;rw[n1o];have e:f0i (n+3) x ([],((0:Int),(((0:Int),((0:Int),[])),(([],([],[])),((0:Int),z0)))))=some (decide (x=ser0)):=this
 change a0a (f0i (n+3) x ([],((0:Int),(((0:Int),((0:Int),[])),(([],([],[])),((0:Int),z0)))))) _=_
 rw[e];rfl
theorem z0z (n:Nat) {s:Sta} {i:Nat} {x:Ser} (hx:s.2.2.2[i]? = some x) (hm:SerM x):e0v (n+7) s (i:Int)=some (decide (LvX s x)):=by
 rw[x0b,f1p hx,obs,v1a (n+2) hm,obs,tfn,tfd,r1x n];by_cases h:x=ser0
 ·rw[if_pos h,decide_eq_false (fun k:LvX s x=>k.1 h)]
 rw[if_neg h,tfd];by_cases h1:s.2.2.1 = -1
 ·rw[if_pos h1,decide_eq_true (show LvX s x from ⟨h,.inl h1⟩)]
 ·rw[if_neg h1];cases hd:h2j s.1 x.2.1 s.2.2.1
  ·rw[decide_eq_true (show LvX s x from ⟨h,.inr hd⟩)];rfl
  ·rw[decide_eq_false (fun k:LvX s x=>by rcases k.2 with k | k;exact h1 k;rw[hd] at k;cases k)];rfl
theorem place_l (n:Nat) (is:(Int×Unit)→Option Bool) (p:Nat→Bool) (L:Nat) (hL:L≤1000000) (his:∀k:Nat,k<L→is ((k:Int),())=some (p k)):∀(d k f:Nat),k+d=L→d<f →
  (∃m:Nat,k≤m∧m<L∧p m=true∧(∀j,k≤j→j<m→p j=false)∧c0i n f (is,(L:Int),(k:Int),())=some (.inr (m:Int))) ∨
  ((∀j,k≤j→j<L→p j=false)∧c0i n f (is,(L:Int),(k:Int),())=some (.inl ())):=by
 intro d;induction d with
 | zero =>
  intro k f hk hf;obtain ⟨f,rfl⟩:∃g,f=g+1:=⟨f-1,by omega⟩;refine .inr ⟨fun j h1 h2=>by omega,?_⟩;rw[j0u,decide_eq_false (by omega),tff]
 | succ d ih =>
  intro k f hk hf;obtain ⟨f,rfl⟩:∃g,f=g+1:=⟨f-1,by omega⟩;rw[j0u,decide_eq_true (by omega),tft,his k (by omega),obs];cases hp:p k
  ·rw[tff,w64 (by omega) (by omega),show ((k:Int)+1)=((k+1:Nat):Int) by omega];rcases ih (k+1) f (by omega) (by omega) with ⟨m,h1,h2,h3,h4,h5⟩ | ⟨h1,h2⟩
   ·exact .inl ⟨m,by omega,h2,h3,fun j q1 q2=>by
     rcases Nat.lt_or_ge k j with q | q
     ·exact h4 j (by omega) q2
     ·rw[show j=k by omega];exact hp,h5⟩
   ·exact .inr ⟨fun j q1 q2=>by
     rcases Nat.lt_or_ge k j with q | q
     ·exact h1 j (by omega) q2
     ·rw[show j=k by omega];exact hp,h2⟩
  ·rw[tft];exact .inl ⟨k,Nat.le_refl _,by omega,hp,fun j q1 q2=>by omega,rfl⟩
theorem w0m (n:Nat) (s:Sta) (is:(Int×Unit)→Option Bool) (p:Nat→Bool) (hL:s.2.2.2.length≤1000000) (his:∀k:Nat,k<s.2.2.2.length→is ((k:Int),())=some (p k)) :
  (∃m:Nat,m<s.2.2.2.length∧p m=true∧(∀j,j<m→p j=false)∧d0x (n+1) s is=some (m:Int)) ∨
  ((∀j,j<s.2.2.2.length→p j=false)∧d0x (n+1) s is=some (-1)):=by
 rw[w0z];rcases place_l n is p _ hL his s.2.2.2.length 0 a0b (by omega) (by unfold a0b;omega) with ⟨m,h1,h2,h3,h4,h5⟩ | ⟨h1,h2⟩
 ·refine .inl ⟨m,h2,h3,fun j q=>h4 j (by omega) q,?_⟩;have h5':c0i n a0b (is,(s.2.2.2.length:Int),(0:Int),())=some (.inr (m:Int)):=h5;rw[h5'];rfl
 ·refine .inr ⟨fun j q=>h1 j (by omega) q,?_⟩;have h2':c0i n a0b (is,(s.2.2.2.length:Int),(0:Int),())=some (.inl ()):=h2;rw[h2'];rfl
theorem g1z (n:Nat) (a b:List Lab) (h:a.length≤9223372036854775807):n0u (n+2) a b=some (decide (a=b)):=by
 rw[w0d,o0b n a b h];rfl
def IsTw (s:Sta) (i k:Nat) (x:Ser):Prop:=k=i∨∃y,s.2.2.2[k]? = some y∧LvX s y∧y.1=x.1
noncomputable instance (s i k x):Decidable (IsTw s i k x):=Classical.propDecidable _
theorem st_twin (n:Nat) {s:Sta} (hw:StaW s) (hL:s.2.2.2.length≤1000000) {i:Nat} {x:Ser} (hx:s.2.2.2[i]? = some x):o0s (n+9) s (i:Int)=some (decide (Twin s i x)):=by
 have hil:i<s.2.2.2.length:=(List.getElem?_eq_some_iff.1 hx).1;have hm:=(hw.at hx).2;rw[z0l];have his:∀k:Nat,k<s.2.2.2.length→(fun y0:Int×Unit=>f0h (n+8) y0.1 (i:Int) s) ((k:Int),())=some (decide (IsTw s i k x)):=by
  intro k hk;have hy:s.2.2.2[k]? = some s.2.2.2[k]:=List.getElem?_eq_getElem hk;generalize s.2.2.2[k]=y at hy;have hmy:=(hw.at hy).2;show f0h (n+8) (k:Int) (i:Int) s=_;rw[u0z,tfd,z0z n hy hmy,obs,f1p hy,obs,f1p hx,obs,g1z (n+5) _ _ hmy.l,obs,tfd];by_cases h1:k=i
  ·rw[if_pos (by rw[h1]),decide_eq_true (show IsTw s i k x from .inl h1)]
  rw[if_neg (by omega)];by_cases h2:LvX s y
  ·rw[if_pos h2];refine congrArg some (decide_eq_decide.2 ⟨fun h3 => .inr ⟨y,hy,h2,h3⟩,fun h3 => ?_⟩);rcases h3 with h3 | ⟨z,z1,z2,z3⟩
   ·exact absurd h3 h1
   ·rw[hy] at z1;cases z1;exact z3
  ·rw[if_neg h2,decide_eq_false];rintro (h3 | ⟨z,z1,z2,z3⟩)
   ·exact h1 h3
   ·rw[hy] at z1;cases z1;exact h2 z2
 rcases w0m (n+7) s (fun y0:Int×Unit=>f0h (n+8) y0.1 (i:Int) s) (fun k=>decide (IsTw s i k x)) hL his with ⟨m,h1,h2,h3,h4⟩ | ⟨h1,h2⟩
 ·rw[h4,obs,tfd,z0z (n+1) hx hm];have h2:=of_decide_eq_true h2;have hmi:m≤i:=by
   rcases Nat.lt_or_ge i m with q | q
   ·have:=of_decide_eq_false (h3 i q);exact absurd (.inl rfl) this
   ·exact q
  by_cases q:m<i
  ·rw[if_pos (by omega),obs];refine congrArg some (decide_eq_decide.2 ⟨fun k=>⟨k,m,q,?_⟩,fun k=>k.1⟩);exact h2.resolve_left (by omega)
  ·rw[if_neg (by omega),decide_eq_false];rintro ⟨k1,k,k2,k3⟩;exact of_decide_eq_false (h3 k (by omega)) (.inr k3)
 ·exact absurd (.inl rfl) (of_decide_eq_false (h1 i hil))
theorem w0a {s:Sta} (h:y0o s.2.1) (hw:1≤s.1.2.1.1∧s.1.2.1.1≤1099511627776):0≤mk s∧mk s≤s.2.1∧s.2.1<mk s+s.1.2.1.1∧s.2.1-s.2.1 % s.1.2.1.1=mk s:=by
 have e:=Int.mul_ediv_add_emod s.2.1 s.1.2.1.1;have e1:=Int.emod_nonneg s.2.1 (show s.1.2.1.1≠0 by omega);have e2:=Int.emod_lt_of_pos s.2.1 (show 0<s.1.2.1.1 by omega);rw[Int.mul_comm] at e;have e3:0≤mk s:=Int.mul_nonneg (Int.ediv_nonneg h.1 (by omega)) (by omega);unfold mk at *
 exact ⟨e3,by omega,by omega,by omega⟩
theorem c2t (n:Nat) {s:Sta} (h:y0o s.2.1) (hw:1≤s.1.2.1.1∧s.1.2.1.1≤1099511627776):k0b (n+1) s=some (mk s):=by
 have:=w0a h hw;have:=h.1;have:=h.2;rw[z0m,tfd,if_neg (by omega),q0h h.1,w64 (by omega) (by omega),(w0a h hw).2.2.2]
theorem st_right (n:Nat) {s:Sta} (hw:StaW s) (hh:Whole s) (ht:y0o s.2.1) {i:Nat} {x:Ser} (hx:s.2.2.2[i]? = some x):m0m (n+12) s (i:Int)=some (decide (q0e s i x)):=by
 have hm:=hw.at hx;have hr:=hh.1.rng;have hL:=hh.len;have hmk:=w0a ht hr.w0;have ht1:=ht.1;have ht2:=ht.2;have hw0:=hr.w0;obtain ⟨m1,m2,m3,m4⟩:=hmk;rw[w0y,f1p hx,obs,v1a (n+7) hm.2,obs,tfd,y0t n s.1 hm.1,obs,c2t (n+10) ht hr.w0,obs,w64 (by omega) (by omega),st_twin (n+2) hw (by omega) hx,obs];simp only[tfd];by_cases h0:x=ser0
 ·rw[if_pos h0,decide_eq_true (show q0e s i x from .inl h0)]
 rw[if_neg h0];by_cases h1:SerOk s.1 x
 case neg=>rw[if_neg h1,if_neg (by decide),decide_eq_false (fun q:q0e s i x=>by rcases q with k | k;exact h0 k;exact h1 k.1)]
 rw[if_pos h1,if_pos rfl];by_cases h2:0≤x.2.1
 case neg=>rw[if_neg h2,decide_eq_false (fun q:q0e s i x=>by rcases q with k | k;exact h0 k;exact h2 k.2.1)]
 rw[if_pos h2];by_cases h3:x.2.1<mk s+s.1.2.1.1
 case neg=>rw[if_neg h3,decide_eq_false (fun q:q0e s i x=>by rcases q with k | k;exact h0 k;exact h3 k.2.2.1)]
 rw[if_pos h3];by_cases h4:Twin s i x
 ·rw[decide_eq_true h4,decide_eq_false (fun q:q0e s i x=>by rcases q with k | k;exact h0 k;exact k.2.2.2 h4)];rfl
 ·rw[decide_eq_false h4,decide_eq_true (show q0e s i x from .inr ⟨h1,h2,h3,h4⟩)];rfl
def sta0:Sta:=(((0:Int),(((0:Int),((0:Int),(0:Int))),(((0:Int),((0:Int),(0:Int))),((0:Int),(0:Int))))),((0:Int),((0:Int),[])))
theorem j1i (n:Nat) (s:Sta):r0v (n+4) s=some (if Whole s then (s,0) else (sta0,2)):=by
 rw[r1j,k0t n s.1,obs,tfn,tfd,tfn,tfd];by_cases h:OkC s.1
 case neg=>rw[if_neg h,if_neg (show ¬((2:Int)=0) by decide),if_neg (fun k:Whole s=>h k.1)];rfl
 rw[if_pos h,if_pos rfl];by_cases h1:(s.2.2.2.length:Int)=s.1.2.2.2.1
 ·rw[if_pos h1,if_pos (show Whole s from ⟨h,h1⟩)]
 ·rw[if_neg h1,if_neg (fun k:Whole s=>h1 k.2)];rfl
theorem r1o (n:Nat) (t:Int):v0a (n+1) t=some (decide (y0o t)):=by
 rw[r1i,tfd];by_cases h:0≤t
 ·rw[if_pos h];exact congrArg some (decide_eq_decide.2 ⟨fun k=>⟨h,k⟩,fun k=>k.2⟩)
 ·rw[if_neg h,decide_eq_false (fun k:y0o t=>h k.1)]
theorem st_clock (n:Nat) (s:Sta):m0n (n+2) s=some (decide (Clock s)):=by
 rw[x0c,r1o n,r1o n,obs,obs];simp only[tfd];by_cases h:y0o s.2.1
 case neg=>rw[if_neg h,decide_eq_false (fun k:Clock s=>h k.1)]
 rw[if_pos h];by_cases h1:s.2.2.1 = -1
 ·rw[if_pos h1];exact congrArg some (decide_eq_decide.2 ⟨fun k=>⟨h,.inl h1,k⟩,fun k=>k.2.2⟩)
 rw[if_neg h1];by_cases h2:y0o s.2.2.1
 ·rw[if_pos h2];exact congrArg some (decide_eq_decide.2 ⟨fun k=>⟨h,.inr h2,k⟩,fun k=>k.2.2⟩)
 ·rw[if_neg h2,decide_eq_false (fun k:Clock s=>by rcases k.2.1 with q | q;exact h1 q;exact h2 q)]
def Wrong (s:Sta) (k:Nat):Prop:=∃x,s.2.2.2[k]? = some x∧¬q0e s k x
noncomputable instance (s k):Decidable (Wrong s k):=Classical.propDecidable _
theorem v0c (n:Nat) {s:Sta} (hw:StaW s):n0g (n+14) s=some (if StaOk s then 0 else 2):=by
 rw[n1p,j1i (n+9) s,obs,tfn,tfd];by_cases h:Whole s
 case neg=>rw[if_neg h,if_neg (show ¬((sta0,(2:Int)).2=0) by decide),if_neg (fun k:StaOk s=>h k.whole)]
 rw[if_pos h,if_pos rfl,st_clock (n+11) s,obs,tfn,tfd];by_cases h1:Clock s
 case neg=>rw[if_neg h1,if_neg (fun k:StaOk s=>h1 k.clock)]
 rw[if_pos h1];have hL:=h.len;have his:∀k:Nat,k<s.2.2.2.length→(fun y2:Int×Unit=>e0p (n+13) y2.1 s) ((k:Int),())=some (decide (Wrong s k)):=by
  intro k hk;have hy:s.2.2.2[k]? = some s.2.2.2[k]:=List.getElem?_eq_getElem hk;generalize s.2.2.2[k]=y at hy;show e0p (n+13) (k:Int) s=_;rw[d1p,st_right n hw h h1.1 hy,obs];by_cases q:q0e s k y
  ·rw[decide_eq_true q,decide_eq_false (fun z:Wrong s k=>by obtain ⟨x,x1,x2⟩:=z;rw[hy] at x1;cases x1;exact x2 q)];rfl
  ·rw[decide_eq_false q,decide_eq_true (show Wrong s k from ⟨y,hy,q⟩)];rfl
 rcases w0m (n+12) s (fun y2:Int×Unit=>e0p (n+13) y2.1 s) (fun k=>decide (Wrong s k)) (by omega) his with ⟨m,q1,q2,q3,q4⟩ | ⟨q1,q2⟩
 ·rw[show (fun y2:Int×Unit=>e0p (n+13) y2.1 (s,(0:Int)).1)=fun y2:Int×Unit=>e0p (n+13) y2.1 s from rfl];obtain ⟨x,x1,x2⟩:=of_decide_eq_true q2;rw[q4,obs,tfd,if_pos (by omega),if_neg (fun k:StaOk s=>x2 (k.right m x x1))]
 ·rw[show (fun y2:Int×Unit=>e0p (n+13) y2.1 (s,(0:Int)).1)=fun y2:Int×Unit=>e0p (n+13) y2.1 s from rfl];rw[q2,obs,tfd,if_neg (by decide),if_pos];refine ⟨h,h1,fun i x hx => ?_⟩;have:=of_decide_eq_false (q1 i (List.getElem?_eq_some_iff.1 hx).1);exact Decidable.byContradiction fun k=>this ⟨x,hx,k⟩
theorem x1y (n:Nat) (l:List Ser) (hL:l.length≤1000000) (hm:∀x∈l,SerM x):∀(rest pre:List Ser) (f:Nat) (ix len:Int),l=pre++rest→ix=pre.length→len=l.length→rest.length<f →
  j0g (n+2) f (l,len,ix,())=some (.inl ())∨j0g (n+2) f (l,len,ix,())=some (.inr 0):=by
 intro rest;induction rest with
 | nil =>
  intro pre f ix len hl hi hn hf;obtain ⟨f,rfl⟩:∃g,f=g+1:=⟨f-1,by simp at hf;omega⟩;left;rw[r0d];simp only[tfd,if_neg (idxe hl hi hn)]
 | cons x rest ih =>
  intro pre f ix len hl hi hn hf;obtain ⟨f,rfl⟩:∃g,f=g+1:=⟨f-1,by simp at hf;omega⟩;have hx:SerM x:=hm x (by rw[hl];simp);rw[r0d];simp only[tfd,if_pos (idx hl hi hn),b0v hl hi,obs,idxw hl hi (show l.length≤1000000000000 by omega)];rcases f2k n x hx.l with h | h
  ·rw[h];right;rfl
  ·rw[h];simp only[obs,if_neg (show ¬((1:Int)=0) by decide)];exact ih (pre++[x]) f (ix+1) len (idxl hl) (idxs hi) hn (by simp at hf;omega)
theorem f2j (n:Nat) {s:Sta} (hw:StaW s):w0f (n+3) s=some 0∨(w0f (n+3) s=some 1∧s.2.2.2.length≤8):=by
 rw[o1y];simp only[tfd];by_cases h:(8:Int)<(s.2.2.2.length:Int)
 ·rw[if_pos h];exact .inl rfl
 ·rw[if_neg h];rcases x1y n s.2.2.2 (by omega) (fun x hx=>(hw.ser x hx).2) s.2.2.2 [] a0b 0 _ rfl rfl rfl (by unfold a0b;omega) with h1 | h1
  ·rw[h1];exact .inr ⟨rfl,by omega⟩
  ·rw[h1];exact .inl rfl
theorem ser_m' {s:Ser} (h:Wf b0f s):SerM s:=by
 obtain ⟨h1,h2,h3,⟨h4,h5,h6⟩,h7⟩:=h;have e1:=h1.1;have e3:=h3.2.2.1;have e4:=h4.1;have e5:=h5.1;have e6:=h6.1;simp only[maxLen] at e1 e3 e4 e5 e6;exact ⟨e1,e3,e4,e5,e6⟩
theorem sta_wf {s:Sta} (h:Wf b0b s):StaW s:=by
 obtain ⟨h1,h2,h3,h4⟩:=h;have e:=h4.1;simp only[maxLen] at e;exact ⟨e,fun x hx=>⟨ser_wf (h4.2 x hx),ser_m' (h4.2 x hx)⟩⟩
end Go.Proofs.YtjffajodppnejaaGreatDoor
namespace Go.Proofs.YtjffajodppnejaaGreatDoor
open Go.Flat Go.Plim
set_option linter.unusedVariables false
def m1r (c:Conf) (s:Trs) (o:Slo) (l:List Ev):Prop :=
 (l=[]∧o=s0∧∀t,FInv c s [] t)∨∃t,EndsAt l t∧FInv c s l t∧o=(t / c.2.1.1,cellOf (win c.2.1.1 l (t / c.2.1.1)))
theorem emp_inv {c:Conf} (h:OkC c):m1r c (emp c) s0 []:=by
 have hr:=h.rng;have n0:=hr.n0;have n1:=hr.n1;have n2:=hr.n2;refine .inl ⟨rfl,rfl,fun t => ?_⟩;have e:emp c=(List.replicate c.2.2.1.1.toNat s0,(List.replicate c.2.2.1.2.1.toNat s0,List.replicate c.2.2.1.2.2.toNat s0)):=if_pos h;have i0:TierInv (List.replicate c.2.2.1.1.toNat s0) c.2.1.1 []:=t0t (by omega) (by omega) hr.w0.1 hr.w0.2;have i1:TierInv (List.replicate c.2.2.1.2.1.toNat s0) c.2.1.2.1 []:=t0t (by omega) (by omega) hr.w1.1 hr.w1.2;have i2:TierInv (List.replicate c.2.2.1.2.2.toNat s0) c.2.1.2.2 []:=t0t (by omega) (by omega) hr.w2.1 hr.w2.2;rw[e]
 exact ⟨⟨h,by simp;omega,by simp;omega,by simp;omega,i0.ok,i1.ok,i2.ok⟩,i0,i1,i2⟩
theorem m1r.fold {c:Conf} {s:Trs} {o:Slo} {l:List Ev} (h:m1r c s o l):FoldOk c s:=by
 rcases h with ⟨_,_,h⟩ | ⟨t,_,h,_⟩
 ·exact (h 0).ok
 ·exact h.ok
theorem g2s {e:Ev} (h:EvOk e) {w:Int} (hw:1≤w):h0w w (e.1 / w):=i1b hw ⟨h.t0,by have:=h.t1;omega⟩
def Turn (o:Slo) (i:Int):Prop:=0<o.2.1∧o.1≠i
end Go.Proofs.YtjffajodppnejaaGreatDoor
namespace Go.Proofs.YtjffajodppnejaaGreatDoor
open Go.Flat Go.Plim
set_option linter.unusedVariables false
set_option linter.unusedSimpArgs false
def z0s (room:Int) (l:List Ev):Rw :=
 (if (l.length:Int)≤room then 0 else (l.length:Int)-room,(if (l.length:Int)≤room then 0 else ((l[l.length-room.toNat-1]?).getD e0).1,l.drop (l.length-room.toNat)))
theorem d2q {room:Int} (h:1≤room) (l:List Ev):((z0s room l).2.2.length:Int)=if (l.length:Int)≤room then (l.length:Int) else room:=by
 simp only[z0s,List.length_drop];split<;>omega
theorem y1u {room:Int} (h:1≤room) (l:List Ev):(z0s room l).2.2.getLast? = l.getLast? := by
 simp only[z0s,List.getLast?_drop];by_cases h0:l=[]
 ·subst h0;simp
 ·have:0<l.length:=List.length_pos_iff.2 h0;rw[if_neg (by omega)]
theorem rawOf_ok {room:Int} (h:1≤room∧room≤4096) {l:List Ev} (hl:Foll l) (hL:l.length≤1000000):RawOk (z0s room l) room:=by
 have hlen:=d2q h.1 l;refine ⟨h.1,h.2,by rw[hlen];split<;>omega,?_,?_,?_,?_,?_⟩
 ·simp only[z0s];split<;>omega
 ·simp only[z0s];split<;>omega
 ·exact hl.sub (List.drop_sublist _ _)
 ·simp only[z0s];intro k;split
  ·rfl
  ·rename_i h1;rw[if_neg h1] at k;omega
 ·intro k;simp only[z0s] at k hlen ⊢;by_cases h1:(l.length:Int)≤room
  ·rw[if_pos h1] at k;exact absurd rfl k
  rw[if_neg h1] at hlen ⊢;obtain ⟨d,hd⟩:∃d,l.length-room.toNat=d+1:=⟨l.length-room.toNat-1,by omega⟩;rw[hd,show d+1-1=d by omega];have hdl:d<l.length:=by omega
  have hdl':d+1<l.length:=by omega
  rw[List.getElem?_eq_getElem hdl];refine ⟨by rw[←hlen,hd],((hl.ok _ (List.getElem_mem hdl)).t0),fun x hx => ?_⟩;rw[List.head?_drop,List.getElem?_eq_getElem hdl'] at hx;have:=List.pairwise_iff_getElem.1 hl.inc d (d+1) hdl hdl' (by omega);simp at hx;rw[←hx];exact this
structure SerInv (c:Conf) (s:Ser) (l:List Ev):Prop where
 lab:LabOk s.1
 len:l.length≤1000000
 raw:s.2.2.1=z0s c.1 l
 opn:m1r c s.2.2.2.1 s.2.2.2.2 l
 last:(l=[]∧s.2.1 = -1)∨EndsAt l s.2.1
theorem SerInv.foll {c:Conf} {s:Ser} {l:List Ev} (h:SerInv c s l):Foll l:=by
 rcases h.last with ⟨rfl,_⟩ | h
 ·exact Foll.nil
 ·exact h.foll
theorem m0j {l:List Ev} {t:Int} (h:EndsAt l t):∃e,l.getLast? = some e∧e.1=t:=by
 obtain ⟨x,hx,hxt⟩:=h.last;rcases List.eq_nil_or_concat l with rfl | ⟨p,y,rfl⟩
 ·cases hx
 rw[List.concat_eq_append] at *
 have h1:=h.le y (by simp);refine ⟨y,by simp,?_⟩;rcases List.mem_append.1 hx with q | q
 ·have:=(d0h.1 h.foll).2.2 x q y (by simp);omega
 ·simp at q;rw[←q];exact hxt
theorem h2d {l:List Ev} {t u:Int} (h:EndsAt l t) (k:EndsAt l u):t=u:=by
 obtain ⟨e,h1,h2⟩:=m0j h;obtain ⟨e',k1,k2⟩:=m0j k;rw[h1] at k1;simp at k1;rw[←h2,←k2,k1]
theorem h2e {l:List Ev} {t:Int} (h:EndsAt l t):l≠[]:=by
 obtain ⟨x,hx,_⟩:=h.last;exact List.ne_nil_of_mem hx
theorem SerInv.at_ {c:Conf} {s:Ser} {l:List Ev} (h:SerInv c s l) (hl:l≠[]):EndsAt l s.2.1∧FInv c s.2.2.2.1 l s.2.1∧s.2.2.2.2=(s.2.1 / c.2.1.1,cellOf (win c.2.1.1 l (s.2.1 / c.2.1.1))):=by
 have he:=h.last.resolve_left fun k=>hl k.1
 rcases h.opn with k | ⟨t,k1,k2,k3⟩
 ·exact absurd k.1 hl
 ·have:=h2d he k1;subst this;exact ⟨he,k2,k3⟩
theorem a1y {t:List Slo} {w:Int} (h:TierInv t w []):tall t=[]:=by
 cases hc:tall t with
 | nil=>rfl
 | cons x r =>
  have hx:x∈tall t:=by rw[hc];simp
  have h1:=h.cells x hx;have:=(n0f h.ok hx).1.n.n1;rw[h1] at this;simp[win,cellOf,z0] at this
theorem r0o {t:List Slo} {w u:Int} {l:List Ev} (h:TierInv t w (below w l u)) (hl:Foll l):b0i t (u / w):=by
 rw[z0c h.ok];intro x hx;have h1:=h.cells x hx;have hn:=(n0f h.ok hx).1.n;have hne:win w (below w l u) x.1≠[]:=fun k=>by
  rw[k] at h1;exact hn.ne h1
 obtain ⟨e,he⟩:=List.exists_mem_of_ne_nil _ hne;obtain ⟨k1,k2⟩:=x0u.1 he;have:=of_decide_eq_true (List.mem_filter.1 k1).2;omega
theorem q1h {w T:Int} {l:List Ev} (he:EndsAt l T):(cellOf (win w l (T / w))).2.2.1.1=T:=by
 obtain ⟨x,hx,hxt⟩:=he.last;have hm:x∈win w l (T / w):=x0u.2 ⟨hx,by rw[hxt]⟩;have hw:=i1n (w:=w) he.foll (T / w);have hh:=w1w hw (List.ne_nil_of_mem hm);have ew:EndsAt (win w l (T / w)) T:=⟨hw,fun y hy=>he.le y (x0u.1 hy).1,x,hm,hxt⟩;obtain ⟨e,k1,k2⟩:=m0j ew;have:=hh.last;rw[k1] at this;simp at this;rw[←this,k2]
theorem n1t {c:Conf} {s:Ser} {l:List Ev} (h:SerInv c s l):SerOk c s:=by
 have hf:=h.opn.fold;have hr:=hf.cok.rng;have hraw:RawOk s.2.2.1 c.1:=by rw[h.raw];exact rawOf_ok hr.raw h.foll h.len
 refine ⟨hf,h.lab,hraw,?_⟩;by_cases hl:l=[]
 ·subst hl;refine .inl ?_;have hlast:=h.last.resolve_right fun k=>h2e k rfl
  rcases h.opn with ⟨_,k1,k2⟩ | ⟨t,k1,_⟩
  ·have:=k2 0;exact ⟨hlast.2,by rw[h.raw];simp[z0s],k1,(c1b this.ok.t0).2 (a1y this.i0),(c1b this.ok.t1).2 (a1y this.i1),(c1b this.ok.t2).2 (a1y this.i2)⟩
  ·exact absurd rfl (h2e k1)
 ·obtain ⟨he,hi,ho⟩:=h.at_ hl;obtain ⟨x,hx,hxt⟩:=he.last;have:=(he.foll.ok x hx).t0;refine .inr ⟨by omega,?_,?_,?_,r0o hi.i0 he.foll,r0o hi.i1 he.foll,r0o hi.i2 he.foll⟩
  ·rw[h.raw,y1u hr.raw.1];exact m0j he
  ·rw[ho];exact q1h he
  ·rw[ho];exact (j1b he hi.i0).1
theorem serInv_w {c:Conf} {s:Ser} {l:List Ev} (h:SerInv c s l):SerW s:=by
 have hok:=n1t h;refine ⟨?_,fun e he=>EvW.of (hok.raw.f.ok e he),hok.fold.w,?_⟩
 ·by_cases hn:s.2.1 = -1
  ·rw[hn];unfold I64;omega
  ·have:=serOk_at hok hn;unfold I64;omega
 ·rcases h.opn with ⟨_,k,_⟩ | ⟨t,he,hi,ho⟩
  ·rw[k];exact j1l
  ·obtain ⟨x,hx,hxt⟩:=he.last;have hxo:=he.foll.ok x hx;have:=o1d hxo hi.ok.cok.rng.w0.1;rw[hxt] at this;rw[ho];exact ⟨by unfold I64;simp only;omega,.of (i2a (i1n he.foll _))⟩
theorem e2o {c:Conf} {l:List Lab} (h:OkC c) (hl:LabOk l):SerInv c (l,(-1,(r0w,(emp c,s0)))) [] :=
 ⟨hl,by simp,by have:=h.rng.raw;simp[z0s,r0w];omega,emp_inv h,.inl ⟨rfl,rfl⟩⟩
noncomputable def j0p (s:Sta) (l:List Lab):Option Nat:=s.2.2.2.findIdx? fun x=>decide (x.1=l∧LvX s x)
noncomputable def t0x (s:Sta):Option Nat:=s.2.2.2.findIdx? fun x=>decide (¬LvX s x)
theorem g0z {s:Sta} {l:List Lab} {i:Nat}:j0p s l=some i↔∃x,s.2.2.2[i]? = some x∧x.1=l∧LvX s x∧∀j,j<i→∀y,s.2.2.2[j]? = some y→¬(y.1=l∧LvX s y):=by
 unfold j0p;rw[List.findIdx?_eq_some_iff_getElem];constructor
 ·rintro ⟨h,h1,h2⟩;have h1:=of_decide_eq_true h1;refine ⟨_,List.getElem?_eq_getElem h,h1.1,h1.2,fun j hj y hy => ?_⟩;obtain ⟨hjl,e⟩:=List.getElem?_eq_some_iff.1 hy;have:=h2 j hj;rw[e] at this
  simpa using this
 ·rintro ⟨x,hx,h1,h2,h3⟩;obtain ⟨hl,e⟩:=List.getElem?_eq_some_iff.1 hx;refine ⟨hl,by rw[e];exact decide_eq_true ⟨h1,h2⟩,fun j hj => ?_⟩;have:=h3 j hj _ (List.getElem?_eq_getElem (by omega))
  simpa using this
theorem y0d {s:Sta} {l:List Lab}:j0p s l=none↔∀x∈s.2.2.2,¬(x.1=l∧LvX s x):=by
 unfold j0p;rw[List.findIdx?_eq_none_iff];simp
theorem x0l {s:Sta} {i:Nat}:t0x s=some i↔∃x,s.2.2.2[i]? = some x∧¬LvX s x∧∀j,j<i→∀y,s.2.2.2[j]? = some y→LvX s y:=by
 unfold t0x;rw[List.findIdx?_eq_some_iff_getElem];constructor
 ·rintro ⟨h,h1,h2⟩;refine ⟨_,List.getElem?_eq_getElem h,of_decide_eq_true h1,fun j hj y hy => ?_⟩;obtain ⟨hjl,e⟩:=List.getElem?_eq_some_iff.1 hy;have:=h2 j hj;rw[e] at this
  simpa using this
 ·rintro ⟨x,hx,h1,h3⟩;obtain ⟨hl,e⟩:=List.getElem?_eq_some_iff.1 hx;refine ⟨hl,by rw[e];exact decide_eq_true h1,fun j hj => ?_⟩;have:=h3 j hj _ (List.getElem?_eq_getElem (by omega))
  simpa using this
theorem y1n {s:Sta}:t0x s=none↔∀x∈s.2.2.2,LvX s x:=by
 unfold t0x;rw[List.findIdx?_eq_none_iff];simp
theorem g2o {s:Sta} (h:StaOk s) {i:Nat} {x:Ser} (hx:s.2.2.2[i]? = some x) (hl:LvX s x):j0p s x.1=some i:=by
 refine g0z.2 ⟨x,hx,rfl,hl,fun j hj y hy hn => ?_⟩;rcases h.right i x hx with k | k
 ·exact hl.1 k
 ·exact k.2.2.2 ⟨hl,j,hj,y,hy,hn.2,hn.1⟩
noncomputable def e0d (s:Sta) (l:List Lab) (e:Ev):Int×(Bool×Int) :=
 if ¬StaOk s then (0,(false,2)) else if ¬LabOk l then (0,(false,8)) else if ¬EvOk e then (0,(false,2)) else
 if e.1<mk s∨mk s+s.1.2.1.1≤e.1 then (0,(false,9)) else
 match j0p s l with
 | some i=>if e.1≤((s.2.2.2[i]?).getD ser0).2.1 then (0,(false,9)) else ((i:Int),(false,0))
 | none=>if e.2.2.2=true then (0,(false,3)) else match t0x s with | some i=>((i:Int),(true,0)) | none=>(0,(false,7))
end Go.Proofs.YtjffajodppnejaaGreatDoor
namespace Go.Proofs.YtjffajodppnejaaGreatDoor
open Go.Flat
theorem two_pow8 (k:Nat):(2:Int)^(8*k)=256^k:=by rw[Int.pow_mul];rfl
theorem b2o (n:Nat) (x:Int):∀(k f:Nat) (w:List Int),k≤8→k<f→w.length+k≤1000000 →
  d0u n f (w,x,8*((k:Int)-1),())=some (.inl (w++beI k x,())):=by
 intro k;induction k with
 | zero =>
  intro f w _ hf _;obtain ⟨f,rfl⟩:∃g,f=g+1:=⟨f-1,by omega⟩;rw[h0b];simp[tfd,beI]
 | succ k ih =>
  intro f w hk hf hl;obtain ⟨f,rfl⟩:∃g,f=g+1:=⟨f-1,by omega⟩;rw[h0b];have h1:(0:Int)≤8*(((k+1:Nat):Int)-1):=by omega
  have h2:¬(8*(((k+1:Nat):Int)-1)<(0:Int)):=by omega
  have h3:(w.length+1)*1≤140737488355328:=by omega
  simp only[tfd,if_pos h1,if_neg h2,if_pos h3];have e1:IntKind.wrap .i64 (8*(((k+1:Nat):Int)-1)-8)=8*((k:Int)-1):=by rw[w64 (by omega) (by omega)];omega
  have e2:IntKind.wrap .u8 (shrI .u64 x (8*(((k+1:Nat):Int)-1)))=x / 256^k % 256:=by
   rw[t0r];congr 1;have:min (8*(((k+1:Nat):Int)-1)).toNat IntKind.u64.bits=8*k:=by
    have:(8*(((k+1:Nat):Int)-1)).toNat=8*k:=by omega
    rw[this];show min (8*k) 64=8*k;omega
   simp only[shrI,this,two_pow8];exact Int.fdiv_eq_ediv_of_nonneg _ (Int.le_of_lt (Int.pow_pos (by decide)))
  rw[e1,e2,ih f _ (by omega) (by omega) (by simp;omega)];simp[beI]
theorem b0s (n:Nat) (w:List Int) (k:Nat) (width x:Int) (hw:width=k) (hk:1≤k) (hk':k≤8) (hl:w.length+k≤1000000) :
  a0o (n+1) w width x=some (w++beI k x):=by
 subst hw;rw[r0m];have h1:¬((k:Int)<1):=by omega
 have h2:¬((8:Int)<k):=by omega
 have e:IntKind.wrap .i64 (8*IntKind.wrap .i64 ((k:Int)-1))=8*((k:Int)-1):=by
  rw[w64 (x:=(k:Int)-1) (by omega) (by omega),w64 (by omega) (by omega)]
 simp only[tfd,if_neg h1,if_neg h2,e];rw[b2o n x k a0b w hk' (by unfold a0b;omega) hl];rfl
def rd (st:List UInt8×Bool) (k:Nat):Int×(List UInt8×Bool):=if st.2=true∨st.1.length<k then (0,([],true)) else (valI (f0e (st.1.take k)),(st.1.drop k,false))
def bts (c:Conf):List Int :=
 beI 4 c.1++(beI 8 c.2.1.1++(beI 8 c.2.1.2.1++(beI 8 c.2.1.2.2++(beI 4 c.2.2.1.1++(beI 4 c.2.2.1.2.1++(beI 4 c.2.2.1.2.2++(beI 4 c.2.2.2.1++(beI 4 c.2.2.2.2++beI 8 0))))))))
theorem b2e (c:Conf):(bts c).length=56:=by simp[bts,c0t]
theorem bytes_ok (n:Nat) {c:Conf} (h:OkC c):y0g (n+4) c=some (toB (bts c)):=by
 rw[m1g,a1k n h];obtain ⟨⟨raw,cap,log,w0,w1,w2,n0,n1,n2⟩,_⟩:=h;simp only[obs,tfd,tfn];rw[if_pos trivial];rw[wu64 (x:=c.1) (by omega) (by omega),wu64 (x:=c.2.1.1) (by omega) (by omega),wu64 (x:=c.2.1.2.1) (by omega) (by omega),wu64 (x:=c.2.1.2.2) (by omega) (by omega),wu64 (x:=c.2.2.1.1) (by omega) (by omega),
  wu64 (x:=c.2.2.1.2.1) (by omega) (by omega),wu64 (x:=c.2.2.1.2.2) (by omega) (by omega),wu64 (x:=c.2.2.2.1) (by omega) (by omega),wu64 (x:=c.2.2.2.2) (by omega) (by omega)]
 rw[b0s _ _ 4 4 _ rfl (by omega) (by omega) (by simp)];simp only[obs];rw[b0s _ _ 8 8 _ rfl (by omega) (by omega) (by simp[c0t])];simp only[obs];rw[b0s _ _ 8 8 _ rfl (by omega) (by omega) (by simp[c0t])];simp only[obs];rw[b0s _ _ 8 8 _ rfl (by omega) (by omega) (by simp[c0t])];simp only[obs];rw[b0s _ _ 4 4 _ rfl (by omega) (by omega) (by simp[c0t])];simp only[obs];rw[b0s _ _ 4 4 _ rfl (by omega) (by omega) (by simp[c0t])];simp only[obs]
 rw[b0s _ _ 4 4 _ rfl (by omega) (by omega) (by simp[c0t])];simp only[obs];rw[b0s _ _ 4 4 _ rfl (by omega) (by omega) (by simp[c0t])];simp only[obs];rw[b0s _ _ 4 4 _ rfl (by omega) (by omega) (by simp[c0t])];simp only[obs];rw[b0s _ _ 8 8 _ rfl (by omega) (by omega) (by simp[c0t])];simp only[obs];rw[l0p];simp only[obs,List.nil_append,List.append_assoc];rfl
def q0 (s:List UInt8):=rd (s,false) 4
def q1 (s:List UInt8):=rd (q0 s).2 8
def q2 (s:List UInt8):=rd (q1 s).2 8
def q3 (s:List UInt8):=rd (q2 s).2 8
def q4 (s:List UInt8):=rd (q3 s).2 4
def q5 (s:List UInt8):=rd (q4 s).2 4
def q6 (s:List UInt8):=rd (q5 s).2 4
def q7 (s:List UInt8):=rd (q6 s).2 4
def q8 (s:List UInt8):=rd (q7 s).2 4
def q9 (s:List UInt8):=rd (q8 s).2 8
structure Full (s:List UInt8):Prop where
 z:(q9 s).1=0
 good:(q9 s).2.2=false
 left:(q9 s).2.1=[]
def idxC (c:Conf):Int:=prt c.2.2.2.2 120
def hom (c:Conf):Int:=1+idxC c+c.2.2.2.2
end Go.Proofs.YtjffajodppnejaaGreatDoor
namespace Go.Proofs.YtjffajodppnejaaGreatDoor
open Go.Flat
set_option linter.unusedVariables false
set_option linter.unusedSimpArgs false
theorem q1p (n:Nat) {c:Conf} (h:OkC c):s0n (n+4) c=some (plc c):=by
 rw[m1f,a1k n h,b1r (n+1) h.rng];simp only[obs,tfd,tfn];rw[if_pos trivial]
end Go.Proofs.YtjffajodppnejaaGreatDoor
namespace Go.Proofs.YtjffajodppnejaaGreatDoor
open Go.Flat Go.Plim
set_option linter.unusedVariables false
set_option linter.unusedSimpArgs false
theorem h2g {l:List Ser} {k:Nat} (h:k<l.length):∃y,l[k]? = some y:=⟨l[k],List.getElem?_eq_getElem h⟩
noncomputable def a2n (s:Sta) (l:List Lab):Int×Int:=if Whole s then (match j0p s l with | some i=>((i:Int),0) | none=>(0,3)) else (0,2)
noncomputable def y1q (s:Sta):Int×Int:=if Whole s then (match t0x s with | some i=>((i:Int),0) | none=>(0,7)) else (0,2)
def IsF (s:Sta) (l:List Lab) (k:Nat):Prop:=∃y,s.2.2.2[k]? = some y∧y.1=l∧LvX s y
noncomputable instance (s l k):Decidable (IsF s l k):=Classical.propDecidable _
def IsR (s:Sta) (k:Nat):Prop:=∃y,s.2.2.2[k]? = some y∧¬LvX s y
noncomputable instance (s k):Decidable (IsR s k):=Classical.propDecidable _
theorem a2k {s:Sta} {l:List Lab} {m:Nat} (h:IsF s l m) (hn:∀j,j<m→¬IsF s l j):j0p s l=some m:=by
 obtain ⟨y,h1,h2,h3⟩:=h;exact g0z.2 ⟨y,h1,h2,h3,fun j hj z hz k=>hn j hj ⟨z,hz,k.1,k.2⟩⟩
theorem find_no {s:Sta} {l:List Lab} (hn:∀j,j<s.2.2.2.length→¬IsF s l j):j0p s l=none:=by
 refine y0d.2 fun x hx k => ?_
 obtain ⟨i,hi,e⟩:=List.getElem_of_mem hx;exact hn i hi ⟨x,by rw[List.getElem?_eq_getElem hi,e],k.1,k.2⟩
theorem y1m {s:Sta} {m:Nat} (h:IsR s m) (hn:∀j,j<m→¬IsR s j):t0x s=some m:=by
 obtain ⟨y,h1,h2⟩:=h;exact x0l.2 ⟨y,h1,h2,fun j hj z hz=>Decidable.byContradiction fun k=>hn j hj ⟨z,hz,k⟩⟩
theorem room_no {s:Sta} (hn:∀j,j<s.2.2.2.length→¬IsR s j):t0x s=none:=by
 refine y1n.2 fun x hx=>Decidable.byContradiction fun k => ?_
 obtain ⟨i,hi,e⟩:=List.getElem_of_mem hx;exact hn i hi ⟨x,by rw[List.getElem?_eq_getElem hi,e],k⟩
theorem stt_find (n:Nat) {s:Sta} (hw:StaW s) (l:List Lab):j1h (n+10) s l=some (a2n s l):=by
 rw[r1m,j1i (n+5) s,obs,tfn,tfd];unfold a2n;by_cases h:Whole s
 case neg=>rw[if_neg h,if_neg h,if_neg (show ¬((sta0,(2:Int)).2=0) by decide)]
 rw[if_pos h,if_pos h,if_pos rfl];have his:∀k:Nat,k<s.2.2.2.length→(fun y1:Int×Unit=>f0s (n+9) y1.1 s l s) ((k:Int),())=some (decide (IsF s l k)):=by
  intro k hk;obtain ⟨y,hy⟩:=h2g hk;have hm:=(hw.at hy).2;show f0s (n+9) (k:Int) s l s=_;rw[j1g,f1p hy,obs,g1z (n+6) _ _ hm.l,obs,tfd,z0z (n+1) hy hm,obs];by_cases h1:y.1=l
  ·rw[if_pos h1];refine congrArg some (decide_eq_decide.2 ⟨fun k=>⟨y,hy,h1,k⟩,fun ⟨z,z1,z2,z3⟩ => ?_⟩);rw[hy] at z1;cases z1;exact z3
  ·rw[if_neg h1,decide_eq_false (fun q:IsF s l k=>by obtain ⟨z,z1,z2,z3⟩:=q;rw[hy] at z1;cases z1;exact h1 z2)]
 rcases w0m (n+8) s (fun y1:Int×Unit=>f0s (n+9) y1.1 s l s) (fun k=>decide (IsF s l k)) (by have:=h.len;omega) his with ⟨m,q1,q2,q3,q4⟩ | ⟨q1,q2⟩
 ·rw[show (fun y1:Int×Unit=>f0s (n+9) y1.1 s l (s,(0:Int)).1)=fun y1:Int×Unit=>f0s (n+9) y1.1 s l s from rfl,q4,obs,tfd,if_neg (by omega),a2k (of_decide_eq_true q2) (fun j hj=>of_decide_eq_false (q3 j hj))]
 ·rw[show (fun y1:Int×Unit=>f0s (n+9) y1.1 s l (s,(0:Int)).1)=fun y1:Int×Unit=>f0s (n+9) y1.1 s l s from rfl,q2,obs,tfd,if_pos (by decide),find_no (fun j hj=>of_decide_eq_false (q1 j hj))]
theorem stt_room (n:Nat) {s:Sta} (hw:StaW s):z0y (n+10) s=some (y1q s):=by
 rw[r1k,j1i (n+5) s,obs,tfn,tfd];unfold y1q;by_cases h:Whole s
 case neg=>rw[if_neg h,if_neg h,if_neg (show ¬((sta0,(2:Int)).2=0) by decide)]
 rw[if_pos h,if_pos h,if_pos rfl];have his:∀k:Nat,k<s.2.2.2.length→(fun y1:Int×Unit=>f0r (n+9) y1.1 s) ((k:Int),())=some (decide (IsR s k)):=by
  intro k hk;obtain ⟨y,hy⟩:=h2g hk;have hm:=(hw.at hy).2;show f0r (n+9) (k:Int) s=_;rw[j1e,z0z (n+1) hy hm,obs];by_cases h1:LvX s y
  ·rw[decide_eq_true h1,decide_eq_false (fun q:IsR s k=>by obtain ⟨z,z1,z2⟩:=q;rw[hy] at z1;cases z1;exact z2 h1)];rfl
  ·rw[decide_eq_false h1,decide_eq_true (show IsR s k from ⟨y,hy,h1⟩)];rfl
 rcases w0m (n+8) s (fun y1:Int×Unit=>f0r (n+9) y1.1 s) (fun k=>decide (IsR s k)) (by have:=h.len;omega) his with ⟨m,q1,q2,q3,q4⟩ | ⟨q1,q2⟩
 ·rw[show (fun y1:Int×Unit=>f0r (n+9) y1.1 (s,(0:Int)).1)=fun y1:Int×Unit=>f0r (n+9) y1.1 s from rfl,q4,obs,tfd,if_neg (by omega),y1m (of_decide_eq_true q2) (fun j hj=>of_decide_eq_false (q3 j hj))]
 ·rw[show (fun y1:Int×Unit=>f0r (n+9) y1.1 (s,(0:Int)).1)=fun y1:Int×Unit=>f0r (n+9) y1.1 s from rfl,q2,obs,tfd,if_pos (by decide),room_no (fun j hj=>of_decide_eq_false (q1 j hj))]
noncomputable def markV (s:Sta):Int:=if Whole s∧y0o s.2.1 then mk s else 0
theorem stt_mark (n:Nat) (s:Sta):j1f (n+5) s=some (markV s):=by
 rw[r1l,j1i n s,obs,tfn,tfd,r1o (n+3),obs,tfn,tfd];unfold markV;by_cases h:Whole s
 case neg=>rw[if_neg h,if_neg (show ¬((sta0,(2:Int)).2=0) by decide),if_neg (fun k=>h k.1)]
 rw[if_pos h,if_pos rfl];by_cases h1:y0o s.2.1
 case neg=>rw[if_neg h1,if_neg (fun k=>h1 k.2)]
 rw[if_pos h1,if_pos ⟨h,h1⟩,c2t (n+3) h1 h.1.rng.w0];rfl
theorem sta0_w:StaW sta0:=⟨by simp[sta0],by simp[sta0]⟩
theorem i0f {l:List Slo} {a b:Int} (h:b0i l a) (hab:a≤b):b0i l b:=fun s hs hc=>by
 have:=h s hs hc;omega
theorem s1x {l:List Slo} {b i:Int} {x:Cel} (h:b0i l b) (hi:i<b):b0i (tput l i x) b:=by
 intro s hs hc;rcases List.mem_or_eq_of_mem_set hs with k | k
 ·exact h s k hc
 ·rw[k];exact hi
theorem l1x {a b w:Int} (hw:1≤w) (hab:a≤b) (h:a / w≠b / w):a / w<b / w:=by
 have:a / w≤b / w:=Int.ediv_le_ediv (by omega) hab;omega
theorem nb_upw {c:Conf} (hc:OkC c) {s:Trs} {T U:Int} (hTU:T≤U) (h0:b0i s.1 (U / c.2.1.1)) (h1:b0i s.2.1 (T / c.2.1.2.1)) (h2:b0i s.2.2 (T / c.2.1.2.2)) :
  b0i (upw c s (T / c.2.1.1) (U / c.2.1.1)).1 (U / c.2.1.1)∧b0i (upw c s (T / c.2.1.1) (U / c.2.1.1)).2.1 (U / c.2.1.2.1)∧b0i (upw c s (T / c.2.1.1) (U / c.2.1.1)).2.2 (U / c.2.1.2.2):=by
 have hr:=hc.rng;have q1:=(edvm (t:=T) hr.w0.1 hr.w1.1 hc.m1).1;have q1u:=(edvm (t:=U) hr.w0.1 hr.w1.1 hc.m1).1;have q2:=(edvm (t:=T) hr.w0.1 hr.w2.1 hc.m02).1;have q2u:=(edvm (t:=U) hr.w0.1 hr.w2.1 hc.m02).1;have m1:T / c.2.1.2.1≤U / c.2.1.2.1:=Int.ediv_le_ediv (by have:=hr.w1;omega) hTU;have m2:T / c.2.1.2.2≤U / c.2.1.2.2:=Int.ediv_le_ediv (by have:=hr.w2;omega) hTU;have u1:b0i (up1 c s (T / c.2.1.1) (U / c.2.1.1)).1 (U / c.2.1.1)∧b0i (up1 c s (T / c.2.1.1) (U / c.2.1.1)).2.1 (U / c.2.1.2.1)∧b0i (up1 c s (T / c.2.1.1) (U / c.2.1.1)).2.2 (T / c.2.1.2.2):=by
  unfold up1;rw[q1,q1u];split
  ·exact ⟨h0,i0f h1 m1,h2⟩
  ·rename_i hne;split
   ·exact ⟨h0,s1x (i0f h1 m1) (by omega),h2⟩
   ·exact ⟨h0,i0f h1 m1,h2⟩
 unfold upw;generalize up1 c s (T / c.2.1.1) (U / c.2.1.1)=v at u1;unfold up2;rw[q2,q2u];split
 ·exact ⟨u1.1,u1.2.1,i0f u1.2.2 m2⟩
 ·rename_i hne;split
  ·exact ⟨u1.1,u1.2.1,s1x (i0f u1.2.2 m2) (by omega)⟩
  ·exact ⟨u1.1,u1.2.1,i0f u1.2.2 m2⟩
theorem y1v {r:Rw} {room:Int} {e:Ev} (h:RawOk r room) (he:EvOk e) (ha:After r.2.2 e) (hl:¬((r.2.2.length:Int)=room∧r.1=70368744177664)):RawOk (p0d r room e) room∧(p0d r room e).2.2.getLast? = some e:=by
 have hf:Foll (r.2.2++[e]):=by
  refine d0h.2 ⟨h.f,⟨by simp[he],by simp⟩,fun x hx y hy => ?_⟩;simp at hy;subst hy;have hn:r.2.2≠[]:=List.ne_nil_of_mem hx;have hg:=List.getLast?_eq_some_getLast hn;have:=ha _ hg;rcases List.eq_nil_or_concat r.2.2 with k | ⟨p,z,k⟩
  ·exact absurd k hn
  ·rw[List.concat_eq_append] at k;have hz:r.2.2.getLast hn=z:=by simp[k]
   rw[hz] at this;rw[k] at hx;rcases List.mem_append.1 hx with q | q
   ·have hf:=h.f;rw[k] at hf;have:=(d0h.1 hf).2.2 x q z (by simp);omega
   ·simp at q;rw[q];exact this
 unfold p0d;by_cases h1:(r.2.2.length:Int)<room
 ·rw[if_pos h1];refine ⟨⟨h.m0,h.m1,by simp;omega,h.l0,h.l1,hf,h.z,fun k => ?_⟩,by simp⟩;have:=(h.p k).1;omega
 ·rw[if_neg h1];have hlen:=h.len;have hlen':(r.2.2.length:Int)=room:=by omega
  have m0:=h.m0;cases hc:r.2.2 with
  | nil=>rw[hc] at hlen';simp at hlen';omega
  | cons a t =>
   rw[hc] at hf hlen';have hfa:=g2d.1 hf;simp only[List.drop_succ_cons,List.drop_zero,List.headD_cons];refine ⟨⟨h.m0,h.m1,by simp at hlen' ⊢;omega,by have:=h.l0;simp only;omega,?_,hfa.2.2,fun k => ?_,fun _=>⟨by simp at hlen' ⊢;omega,hfa.1.t0,fun x hx => ?_⟩⟩,by simp⟩
   ·have:=h.l1;have:r.1≠70368744177664:=fun k=>hl ⟨by rw[hc];exact hlen',k⟩
    simp only;omega
   ·have:=h.l0;simp only at k;omega
   ·exact hfa.2.1 x (List.mem_of_mem_head? hx)
theorem mrg_fits {a:Cel} {e:Ev} {w i:Int} (h:FitsP a w i) (he:EvOk e) (hlt:a.2.2.1.1<e.1) (hi:e.1 / w=i):FitsP (mrg a (d0t e)) w i:=by
 have hm:=s1y h.n (p0q he);refine ⟨mrg_N h.n (p0q he) hlt,h.w0,h.w1,?_,?_⟩
 ·rw[hm];exact h.f
 ·rw[hm];exact hi
theorem b1n {c:Conf} {s t:Ser} {e:Ev} (h:SerOk c s) (hp:putE c s e=(t,0)):SerOk c t∧EvOk e∧s.2.1<e.1∧t.2.1=e.1∧t.1=s.1:=by
 have hr:=h.fold.cok.rng;unfold putE at hp;by_cases h1:SerOk c s∧EvOk e
 case neg=>rw[if_neg h1] at hp;cases hp
 rw[if_pos h1] at hp;have he:=h1.2;by_cases h2:e.1≤s.2.1
 ·rw[if_pos h2] at hp;cases hp
 rw[if_neg h2] at hp;by_cases h3:(turned c s (e.1 / c.2.1.1)).2≠0
 ·rw[if_pos h3] at hp;exact absurd (congrArg Prod.snd hp) h3
 rw[if_neg h3] at hp;by_cases h4:(q0r s.2.2.1 c.1 e).2≠0
 ·rw[if_pos h4] at hp;exact absurd (congrArg Prod.snd hp) h4
 rw[if_neg h4] at hp;by_cases h5:(mrgE (turned c s (e.1 / c.2.1.1)).1.2.2 (d0t e)).2≠0
 ·rw[if_pos h5] at hp;exact absurd (congrArg Prod.snd hp) h5
 rw[if_neg h5] at hp;have hp:=(Prod.ext_iff.1 hp).1;simp only at hp;subst hp;refine ⟨?_,he,by omega,rfl,rfl⟩;have h3:(turned c s (e.1 / c.2.1.1)).2=0:=Decidable.byContradiction h3;have h4:(q0r s.2.2.1 c.1 e).2=0:=Decidable.byContradiction h4;have h5:(mrgE (turned c s (e.1 / c.2.1.1)).1.2.2 (d0t e)).2=0:=Decidable.byContradiction h5;have e0:0≤e.1:=he.t0;have hraw:RawOk (q0r s.2.2.1 c.1 e).1 c.1∧(q0r s.2.2.1 c.1 e).1.2.2.getLast? = some e:=by
  unfold q0r at h4 ⊢;rw[if_pos ⟨h.raw,he⟩] at h4 ⊢;by_cases k1:After s.2.2.1.2.2 e
  case neg=>rw[if_neg k1] at h4;cases h4
  rw[if_pos k1] at h4 ⊢;by_cases k2:(s.2.2.1.2.2.length:Int)=c.1∧s.2.2.1.1=70368744177664
  ·rw[if_pos k2] at h4;cases h4
  rw[if_neg k2] at h4 ⊢;exact y1v h.raw he k1 k2
 have key:FoldOk c (turned c s (e.1 / c.2.1.1)).1.1∧b0i (turned c s (e.1 / c.2.1.1)).1.1.1 (e.1 / c.2.1.1)∧b0i (turned c s (e.1 / c.2.1.1)).1.1.2.1 (e.1 / c.2.1.2.1)∧b0i (turned c s (e.1 / c.2.1.1)).1.1.2.2 (e.1 / c.2.1.2.2) ∧
   FitsP (mrgE (turned c s (e.1 / c.2.1.1)).1.2.2 (d0t e)).1 c.2.1.1 (e.1 / c.2.1.1)∧(mrgE (turned c s (e.1 / c.2.1.1)).1.2.2 (d0t e)).1.2.2.1.1=e.1:=by
  have fresh1:FitsP (d0t e) c.2.1.1 (e.1 / c.2.1.1):=⟨p0q he,hr.w0.1,hr.w0.2,rfl,rfl⟩;have z1:mrgE s0.2 (d0t e)=(d0t e,0):=mrgE_z0 (p0q he).ok;rcases h.st with ⟨l1,hf⟩ | ⟨l1,hd⟩
  ·have ht:turned c s (e.1 / c.2.1.1)=((s.2.2.2.1,s.2.2.2.2),0):=by
    unfold turned;rw[if_neg (fun k:u1o s _=>k.1 hf.opn)]
   rw[ht];simp only;rw[hf.opn,z1];exact ⟨h.fold,i0f hf.b0 (Int.ediv_nonneg e0 (by have:=hr.w0;omega)),i0f hf.b1 (Int.ediv_nonneg e0 (by have:=hr.w1;omega)),i0f hf.b2 (Int.ediv_nonneg e0 (by have:=hr.w2;omega)),fresh1,rfl⟩
  ·have hT:s.2.1≤e.1:=by omega
   have ho:s.2.2.2.2.1=s.2.1 / c.2.1.1:=by rw[←hd.fit.l,hd.ol]
   by_cases hts:u1o s (e.1 / c.2.1.1)
   ·have hlt:s.2.1 / c.2.1.1<e.1 / c.2.1.1:=l1x hr.w0.1 hT (by rw[←ho];exact hts.2);have hcl:z0h c s.2.2.2.1 s.2.2.2.2 (e.1 / c.2.1.1)=(upw c (tput s.2.2.2.1.1 s.2.2.2.2.1 s.2.2.2.2.2,s.2.2.2.1.2) (s.2.1 / c.2.1.1) (e.1 / c.2.1.1),0):=by
     unfold z0h;rw[if_pos h.fold,if_neg hts.1,if_pos hd.fit,if_neg hts.2,if_pos ⟨by omega,g2s he hr.w0.1⟩,ho]
    have ht:turned c s (e.1 / c.2.1.1)=((upw c (tput s.2.2.2.1.1 s.2.2.2.2.1 s.2.2.2.2.2,s.2.2.2.1.2) (s.2.1 / c.2.1.1) (e.1 / c.2.1.1),s0),0):=by
     unfold turned;rw[if_pos hts,hcl,if_pos rfl]
    rw[ht];simp only;rw[z1];obtain ⟨n0,n1,n2⟩:=nb_upw (s:=(tput s.2.2.2.1.1 s.2.2.2.2.1 s.2.2.2.2.2,s.2.2.2.1.2)) h.fold.cok hT (s1x (i0f hd.b0 (by omega)) (by omega)) hd.b1 hd.b2;exact ⟨upw_ok (c1j h.fold hd.fit) _ _,n0,n1,n2,fresh1,rfl⟩
   ·have ht:turned c s (e.1 / c.2.1.1)=((s.2.2.2.1,s.2.2.2.2),0):=by
     unfold turned;rw[if_neg hts]
    have hop:s.2.2.2.2≠s0:=fun k=>by have:=hd.fit.n.n1;rw[k] at this;simp[s0,z0] at this
    have hw:s.2.2.2.2.1=e.1 / c.2.1.1:=Decidable.byContradiction fun k=>hts ⟨hop,k⟩
    rw[ht] at h5 ⊢;simp only at h5 ⊢;obtain ⟨k1,k2,k3,k4,k5⟩:=s1z h5;rw[k4];have hfit:=hd.fit;rw[hw] at hfit;have hm:=s1y hd.fit.n (p0q he);exact ⟨h.fold,i0f hd.b0 (by omega),i0f hd.b1 (Int.ediv_le_ediv (by have:=hr.w1;omega) hT),i0f hd.b2 (Int.ediv_le_ediv (by have:=hr.w2;omega) hT),
     mrg_fits hfit he (by have:=hd.ol;omega) rfl,by rw[hm];rfl⟩
 obtain ⟨k1,k2,k3,k4,k5,k6⟩:=key;exact ⟨k1,h.lab,hraw.1,.inr ⟨by show e.1 ≠ -1;omega,⟨e,hraw.2,rfl⟩,k6,k5,k2,k3,k4⟩⟩
def setS (s:Sta) (i:Nat) (y:Ser):Sta:=(s.1,(s.2.1,(s.2.2.1,s.2.2.2.set i y)))
noncomputable def xOf (s:Sta) (l:List Lab) (w:Int×(Bool×Int)):Ser:=if w.2.1=true then (newV s.1 l).1 else (s.2.2.2[w.1.toNat]?).getD ser0
noncomputable def g0j (s:Sta) (l:List Lab) (e:Ev):Sta×Int :=
 if (e0d s l e).2.2≠0 then (sta0,(e0d s l e).2.2)
 else if (putE s.1 (xOf s l (e0d s l e)) e).2≠0 then (sta0,(putE s.1 (xOf s l (e0d s l e)) e).2)
 else (setS s (e0d s l e).1.toNat (putE s.1 (xOf s l (e0d s l e)) e).1,0)
structure Goes (s:Sta) (l:List Lab) (e:Ev):Prop where
 st:StaOk s
 lab:LabOk l
 ev:EvOk e
 lo:mk s≤e.1
 hi:e.1<mk s+s.1.2.1.1
inductive PlaceAt (s:Sta) (l:List Lab) (e:Ev):Nat→Ser→Bool→Prop
 | found {i:Nat} {x:Ser} (hf:j0p s l=some i) (hx:s.2.2.2[i]? = some x) (hl:x.1=l) (hlv:LvX s x) (ht:x.2.1<e.1):PlaceAt s l e i x false
 | room {i:Nat} (hf:j0p s l=none) (hs:e.2.2.2=false) (hr:t0x s=some i):PlaceAt s l e i (l,(-1,(r0w,(emp s.1,s0)))) true
theorem e2m {c:Conf} {l:List Lab} (h:OkC c) (hl:LabOk l):newV c l=((l,(-1,(r0w,(emp c,s0)))),0):=by
 unfold newV;rw[if_pos h,if_pos hl]
theorem w1c {s:Sta} {l:List Lab} {e:Ev} (h:(e0d s l e).2.2=0):Goes s l e∧∃i x b,PlaceAt s l e i x b∧(e0d s l e).1.toNat=i∧xOf s l (e0d s l e)=x∧e0d s l e=((i:Int),(b,0)):=by
 unfold e0d at h ⊢;by_cases h1:StaOk s
 case neg=>rw[if_pos h1] at h;cases h
 rw[if_neg (fun k=>k h1)] at h ⊢;by_cases h2:LabOk l
 case neg=>rw[if_pos h2] at h;cases h
 rw[if_neg (fun k=>k h2)] at h ⊢;by_cases h3:EvOk e
 case neg=>rw[if_pos h3] at h;cases h
 rw[if_neg (fun k=>k h3)] at h ⊢;by_cases h4:e.1<mk s∨mk s+s.1.2.1.1≤e.1
 ·rw[if_pos h4] at h;cases h
 rw[if_neg h4] at h ⊢;refine ⟨⟨h1,h2,h3,by omega,by omega⟩,?_⟩;cases hf:j0p s l with
 | some i =>
  rw[hf] at h;simp only at h ⊢;obtain ⟨x,hx,k1,k2,k3⟩:=g0z.1 hf;rw[hx] at h ⊢;simp only[Option.getD_some] at h ⊢;by_cases h5:e.1≤x.2.1
  ·rw[if_pos h5] at h;cases h
  rw[if_neg h5];exact ⟨i,x,false,.found hf hx k1 k2 (by omega),rfl,by unfold xOf;simp[hx],rfl⟩
 | none =>
  rw[hf] at h;simp only at h ⊢;cases h5:e.2.2.2 with
  | true=>rw[h5,if_pos rfl] at h;cases h
  | false =>
   rw[h5,if_neg (by simp)] at h;rw[if_neg (by simp)];cases hr:t0x s with
   | none=>rw[hr] at h;cases h
   | some i =>
    simp only;exact ⟨i,_,true,.room hf h5 hr,rfl,by unfold xOf;rw[if_pos rfl,e2m h1.whole.1 h2],rfl⟩
theorem a1e {s:Sta} {l:List Lab} {e:Ev} (h:Goes s l e) {i:Nat} {x:Ser} {b:Bool} (hp:PlaceAt s l e i x b):SerOk s.1 x∧x.1=l∧i<s.2.2.2.length∧x.2.1<e.1:=by
 cases hp with
 | found hf hx hl hlv ht =>
  rcases h.st.right _ _ hx with k | k
  ·exact absurd k hlv.1
  ·exact ⟨k.1,hl,(List.getElem?_eq_some_iff.1 hx).1,ht⟩
 | room hf hs hr =>
  obtain ⟨y,hy,_⟩:=x0l.1 hr;exact ⟨n1t (e2o h.st.whole.1 h.lab),rfl,(List.getElem?_eq_some_iff.1 hy).1,by have:=h.ev.t0;show (-1:Int)<e.1;omega⟩
theorem i1m {s t:Sta} {l:List Lab} {e:Ev} (h:g0j s l e=(t,0)):Goes s l e∧∃i x b y,PlaceAt s l e i x b∧putE s.1 x e=(y,0)∧t=setS s i y∧e0d s l e=((i:Int),(b,0)):=by
 unfold g0j at h;by_cases h1:(e0d s l e).2.2=0
 case neg=>rw[if_pos h1] at h;exact absurd (congrArg Prod.snd h) h1
 rw[if_neg (fun k=>k h1)] at h;obtain ⟨hg,i,x,b,k1,k2,k3,k4⟩:=w1c h1;rw[k2,k3] at h;by_cases h2:(putE s.1 x e).2=0
 case neg=>rw[if_pos h2] at h;exact absurd (congrArg Prod.snd h) h2
 rw[if_neg (fun k=>k h2)] at h;exact ⟨hg,i,x,b,_,k1,Prod.ext rfl h2,(congrArg Prod.fst h).symm,k4⟩
theorem l0w (s:Sta) (i:Nat) (y:Ser) (j:Nat):(setS s i y).2.2.2[j]? = if i=j then (if i<s.2.2.2.length then some y else none) else s.2.2.2[j]? := by
 unfold setS;simp only[List.getElem?_set]
theorem e2n {s:Sta} (h:StaOk s) {y:Ser} (hn:y≠ser0) (h1:mk s≤y.2.1) (h2:y.2.1<35184372088832):LvX s y:=by
 refine ⟨hn,?_⟩;rcases h.clock.2.1 with k | k
 ·exact .inl k
 ·refine .inr ?_;have hr:=h.whole.1.rng;have hc:=h.clock.2.2;obtain ⟨m1,m2,m3,m4⟩:=w0a h.clock.1 hr.w0;have e1:s.2.2.1 / s.1.2.1.1≤y.2.1 / s.1.2.1.1:=by
   have a1:s.2.1 / s.1.2.1.1≤y.2.1 / s.1.2.1.1:=by
    rw[Int.le_ediv_iff_mul_le (by omega)];exact h1
   have a2:s.2.2.1 / s.1.2.1.1≤s.2.1 / s.1.2.1.1:=Int.ediv_le_ediv (by omega) hc;omega
  unfold h2j;have g:f1e y.2.1 s.2.2.1 s.1.2.1.1 s.1.2.2.1.1=false:=by
   unfold f1e oldV;have n0:=hr.n0;have:=Int.ediv_nonneg k.1 (show 0≤s.1.2.1.1 by omega);rw[if_pos ⟨⟨k.1,k.2,hr.w0.1,hr.w0.2⟩,n0.1,n0.2⟩];refine decide_eq_false fun q => ?_
   have q:=q.2.2;simp only at q;split at q<;>omega
  rw[g];simp
theorem r1n {s t:Sta} {l:List Lab} {e:Ev} (h:g0j s l e=(t,0)):StaOk t:=by
 obtain ⟨hg,i,x,b,y,hp,hput,rfl,_⟩:=i1m h;obtain ⟨p1,p2,p3,p4⟩:=a1e hg hp;obtain ⟨q1,q2,q3,q4,q5⟩:=b1n p1 hput;have hst:=hg.st;refine ⟨⟨hst.whole.1,by simpa [setS] using hst.whole.2⟩,hst.clock,fun j z hz => ?_⟩;rw[l0w] at hz;by_cases hij:i=j
 ·subst hij;rw[if_pos rfl,if_pos p3] at hz;cases hz;refine .inr ⟨q1,by rw[q4];exact hg.ev.t0,by rw[q4];exact hg.hi,?_⟩;rintro ⟨_,k,hk,w,hw,hlw,hwl⟩;rw[l0w,if_neg (by omega)] at hw;rw[q5,p2] at hwl;cases hp with
  | found hf hx hl hlv ht =>
   obtain ⟨_,_,_,_,first⟩:=g0z.1 hf;exact first k hk w hw ⟨hwl,hlw⟩
  | room hf hs hr=>exact y0d.1 hf w (List.mem_of_getElem? hw) ⟨hwl,hlw⟩
 ·rw[if_neg hij] at hz;rcases hst.right j z hz with k | ⟨k1,k2,k3,k4⟩
  ·exact .inl k
  ·refine .inr ⟨k1,k2,k3,?_⟩;rintro ⟨hlz,k,hk,w,hw,hlw,hwl⟩;rw[l0w] at hw;by_cases hik:i=k
   ·subst hik;rw[if_pos rfl,if_pos p3] at hw;cases hw;rw[q5,p2] at hwl;cases hp with
    | found hf hx hl hlv ht=>exact k4 ⟨hlz,i,hk,x,hx,hlv,hl.trans hwl⟩
    | room hf hs hr=>exact y0d.1 hf z (List.mem_of_getElem? hz) ⟨hwl.symm,hlz⟩
   ·rw[if_neg hik] at hw;exact k4 ⟨hlz,k,hk,w,hw,hlw,hwl⟩
noncomputable def z1a (s:Sta):Int×Int:=if StaOk s then (mk s,if 35184372088832<mk s+s.1.2.1.1 then 35184372088832 else mk s+s.1.2.1.1) else (0,0)
theorem markV_ok {s:Sta} (h:StaOk s):markV s=mk s∧IntKind.wrap .i64 (mk s+s.1.2.1.1)=mk s+s.1.2.1.1:=by
 have hr:=h.whole.1.rng.w0;have ht:=h.clock.1.2;obtain ⟨m1,m2,m3,m4⟩:=w0a h.clock.1 hr;exact ⟨if_pos ⟨h.whole,h.clock.1⟩,w64 (by omega) (by omega)⟩
theorem y1k (n:Nat) {s:Sta} (hw:StaW s):x0k (n+15) s=some (z1a s):=by
 rw[j1r,v0c n hw,obs,tfn,tfd,stt_mark (n+9) s];unfold z1a;by_cases h:StaOk s
 case neg=>rw[if_neg h,if_neg h,if_neg (show ¬((2:Int)=0) by decide)]
 obtain ⟨e1,e2⟩:=markV_ok h;rw[if_pos h,if_pos h,if_pos rfl,obs,e1,e2]
theorem v1n {s:Sta} {e:Ev} (h:StaOk s) (he:EvOk e):(e.1<(z1a s).1∨(z1a s).2≤e.1)↔(e.1<mk s∨mk s+s.1.2.1.1≤e.1):=by
 have:=he.t1;unfold z1a;rw[if_pos h];simp only;split<;>omega
theorem a2l {s:Sta} (h:Whole s) {l:List Lab} {i:Nat} (hf:j0p s l=some i):a2n s l=((i:Int),0):=by
 unfold a2n;rw[if_pos h,hf]
theorem a2m {s:Sta} (h:Whole s) {l:List Lab} (hf:j0p s l=none):a2n s l=(0,3):=by
 unfold a2n;rw[if_pos h,hf]
theorem y1o {s:Sta} (h:Whole s) {i:Nat} (hf:t0x s=some i):y1q s=((i:Int),0):=by
 unfold y1q;rw[if_pos h,hf]
theorem y1p {s:Sta} (h:Whole s) (hf:t0x s=none):y1q s=(0,7):=by
 unfold y1q;rw[if_pos h,hf]
theorem q1x {s:Sta} {l:List Lab} {e:Ev} (h:StaOk s) (h1:LabOk l) (h2:EvOk e) (h3:¬(e.1<mk s∨mk s+s.1.2.1.1≤e.1)) :
  e0d s l e=match j0p s l with
   | some i=>if e.1≤((s.2.2.2[i]?).getD ser0).2.1 then (0,(false,9)) else ((i:Int),(false,0))
   | none=>if e.2.2.2=true then (0,(false,3)) else match t0x s with | some i=>((i:Int),(true,0)) | none=>(0,(false,7)):=by
 unfold e0d;rw[if_neg (fun k=>k h),if_neg (fun k=>k h1),if_neg (fun k=>k h2),if_neg h3]
 all_goals (cases j0p s l<;>first | rfl | (cases t0x s<;>rfl))
theorem s1a (n:Nat) {s:Sta} (hw:StaW s) (l:List Lab) {e:Ev} (he:EvW e):t0w (n+16) s l e=some (e0d s l e):=by
 rw[d1t,v0c (n+1) hw,obs,tfn,tfd,p0k _ l,g0s _ he,y1k n hw,stt_find (n+5) hw l,stt_room (n+5) hw];by_cases h:StaOk s
 case neg =>
  rw[if_neg h,if_neg (show ¬((2:Int)=0) by decide)];unfold e0d;rw[if_pos h]
 rw[if_pos h,if_pos rfl,obs,tfn,tfd];by_cases h1:LabOk l
 case neg =>
  rw[if_neg h1,if_neg (show ¬((8:Int)=0) by decide)];unfold e0d;rw[if_neg (fun k=>k h),if_pos h1]
 rw[if_pos h1,if_pos rfl,obs,tfn,tfd];by_cases h2:EvOk e
 case neg =>
  rw[if_neg h2,if_neg (show ¬((2:Int)=0) by decide)];unfold e0d;rw[if_neg (fun k=>k h),if_neg (fun k=>k h1),if_pos h2]
 rw[if_pos h2,if_pos rfl,obs,obs,tfd,tfd];by_cases h3:e.1<mk s∨mk s+s.1.2.1.1≤e.1
 ·have ht:e0d s l e=(0,(false,9)):=by
   unfold e0d;rw[if_neg (fun k=>k h),if_neg (fun k=>k h1),if_neg (fun k=>k h2),if_pos h3]
  rw[ht];rcases (v1n h h2).2 h3 with q | q
  ·rw[if_pos q]
  ·by_cases q':e.1<(z1a s).1
   ·rw[if_pos q']
   ·rw[if_neg q',if_pos q]
 have h3':=mt (v1n h h2).1 h3;rw[if_neg (fun k=>h3' (.inl k)),if_neg (fun k=>h3' (.inr k)),q1x h h1 h2 h3,tfd];cases hf:j0p s l with
 | some i =>
  obtain ⟨x,hx,_⟩:=g0z.1 hf;rw[a2l h.whole hf,if_pos rfl,f1p hx,obs,tfd];simp only[hx,Option.getD_some];by_cases h4:e.1≤x.2.1
  ·rw[if_pos h4,if_pos h4]
  ·rw[if_neg h4,if_neg h4];rfl
 | none =>
  rw[a2m h.whole hf,if_neg (show ¬((3:Int)=0) by decide),show (decide (((0:Int),(3:Int)).2=0))=false from rfl,tff];cases hs:e.2.2.2 with
  | true=>rw[tft];simp
  | false =>
   rw[tff,obs];simp only[Bool.false_eq_true,if_false];cases hr:t0x s with
   | some i=>rw[y1o h.whole hr];rfl
   | none=>rw[y1p h.whole hr];rfl
theorem b2u {s:Sta} {l:List Lab} {e:Ev} (h:(e0d s l e).2.2≠0):g0j s l e=(sta0,(e0d s l e).2.2):=by
 unfold g0j;rw[if_pos h]
theorem h2u (n:Nat) (s:List Ser) (h:s.length≤1000000):l0b (n+1) s=some s:=by
 rw[v0m,decide_eq_true (show (0+s.length)*264≤140737488355328 by omega)];simp only[tft,List.nil_append];by_cases h0:s.length=0
 ·rw[decide_eq_true h0,tft,List.length_eq_zero_iff.1 h0,c1y]
 ·rw[decide_eq_false h0,tff]
theorem place_w {s:Sta} (hw:StaW s) {l:List Lab} {e:Ev} (hg:Goes s l e) {i:Nat} {x:Ser} {b:Bool} (hp:PlaceAt s l e i x b):SerW x:=by
 cases hp with
 | found hf hx hl hlv ht=>exact (hw.at hx).1
 | room hf hs hr=>exact serInv_w (e2o hg.st.whole.1 hg.lab)
theorem b2p {s:Sta} {l:List Lab} {e:Ev} {i:Nat} {x:Ser} {b:Bool} (hp:(e0d s l e).1.toNat=i) (hx:xOf s l (e0d s l e)=x) (h:(e0d s l e).2.2=0) :
  g0j s l e=if (putE s.1 x e).2=0 then (setS s i (putE s.1 x e).1,0) else (sta0,(putE s.1 x e).2):=by
 unfold g0j;rw[if_neg (fun k=>k h),hp,hx];by_cases h1:(putE s.1 x e).2=0
 ·rw[if_neg (fun k=>k h1),if_pos h1]
 ·rw[if_pos h1,if_neg h1]
theorem set_tail {s:Sta} {i:Nat} (hi:i<s.2.2.2.length) (y:Ser) :
  (a0a (at? s.2.2.2 (i:Int)) fun r4=>a0a ((s.2.2.2)[(Int.toNat (i:Int))]?) fun r5=>some ((s.1,(s.2.1,(s.2.2.1,(List.set s.2.2.2 (Int.toNat (i:Int)) y)))),(0:Int)))=some (setS s i y,0):=by
 obtain ⟨z,hz⟩:=h2g hi;rw[f1p hz,obs,Int.toNat_natCast,hz,obs];rfl
theorem b2q (n:Nat) {s:Sta} (hw:StaW s) (l:List Lab) {e:Ev} (he:EvW e):k0w (n+24) s l e=some (g0j s l e):=by
 rw[m1t,s1a (n+7) hw l he,obs,tfn,tfd];by_cases h:(e0d s l e).2.2=0
 case neg=>rw[if_neg h,b2u h];rfl
 obtain ⟨hg,i,x,b,hp,k1,k2,hv⟩:=w1c h;obtain ⟨p1,p2,p3,p4⟩:=a1e hg hp;rw[if_pos h,b2p (b:=b) k1 k2 h,hv,d1m];have hx:(tif b (a0a (s0c (n+22) s.1 l) fun r0=>some r0) (a0a (at? s.2.2.2 (i:Int)) fun r1=>some (r1,(0:Int))))=some (x,0):=by
  cases hp with
  | found hf hx hl hlv ht=>rw[tff,f1p hx,obs]
  | room hf hs hr=>rw[tft,y1i (n+15),e2m hg.st.whole.1 hg.lab,obs]
 simp only;rw[hx,obs,tfn,tfd,if_pos rfl];simp only;rw[y1h n s.1 (place_w hw hg hp) he,obs,tfn,tfd];by_cases h1:(putE s.1 x e).2=0
 case neg=>rw[if_neg h1,if_neg h1];rfl
 rw[if_pos h1,if_pos h1,h2u (n+22) _ (by have:=hg.st.whole.len;omega),obs,set_tail p3]
theorem serW_put {c:Conf} {s t:Ser} {e:Ev} (h:SerOk c s) (hp:putE c s e=(t,0)):SerW t∧SerM t:=by
 obtain ⟨q1,q2,q3,q4,q5⟩:=b1n h hp;have hc:=q1.fold.cok.rng;refine ⟨⟨?_,fun x hx=>EvW.of (q1.raw.f.ok x hx),q1.fold.w,?_⟩,?_⟩
 ·have:=q2.t0;have:=q2.t1;rw[q4];unfold I64;omega
 ·rcases q1.st with ⟨_,k⟩ | ⟨_,k⟩
  ·rw[k.opn];exact j1l
  ·have:=k.fit.i0;exact ⟨by unfold I64;omega,.of k.fit.n.ok⟩
 ·have l1:=q1.lab.n1;have l2:=q1.raw.len;have l3:=q1.raw.m1;have:=q1.fold.lens;exact ⟨by omega,by omega,by omega,by omega,by omega⟩
theorem write_w {s t:Sta} (hw:StaW s) {l:List Lab} {e:Ev} {v:Int} (h:g0j s l e=(t,v)):StaW t:=by
 by_cases hv:v=0
 ·subst hv;obtain ⟨hg,i,x,b,y,hp,hput,rfl,_⟩:=i1m h;obtain ⟨p1,p2,p3,p4⟩:=a1e hg hp;have hy:=serW_put p1 hput;refine ⟨by simpa [setS] using hw.len,fun z hz => ?_⟩;rcases List.mem_or_eq_of_mem_set hz with k | k
  ·exact hw.ser z k
  ·rw[k];exact hy
 ·have:t=sta0:=by
   unfold g0j at h;split at h
   ·exact (congrArg Prod.fst h).symm
   ·split at h
    ·exact (congrArg Prod.fst h).symm
    ·exact absurd (congrArg Prod.snd h).symm hv
  rw[this];exact sta0_w
theorem writeV_w {s:Sta} (hw:StaW s) (l:List Lab) (e:Ev):StaW (g0j s l e).1:=write_w hw (v:=(g0j s l e).2) rfl
end Go.Proofs.YtjffajodppnejaaGreatDoor

namespace Go.Plim
set_option linter.unusedVariables false
def tz:Nat→Nat→Nat
 | 0,_=>0
 | k+1,x=>if x % 2=1 then 0 else tz k (x / 2)+1
def bl:Nat→Nat→Nat
 | 0,_=>0
 | k+1,x=>if x=0 then 0 else bl k (x / 2)+1
end Go.Plim

namespace Go.Plim
set_option linter.unusedVariables false
def ndF:Nat→Nat→Nat
 | 0,_=>1
 | f+1,u=>if u<10 then 1 else ndF f (u / 10)+1
def ndg (u:Nat):Nat:=ndF 64 u
def dgs:Nat→Nat→List Int
 | _,0=>[]
 | u,k+1=>dgs (u / 10) k++[((48+u % 10:Nat):Int)]
def decI (u:Nat):List Int:=dgs u (ndg u)
theorem ndF_of:∀(d f u:Nat),d<f→(0<d→10^d≤u)→u<10^(d+1)→ndF f u=d+1:=by
 intro d;induction d with
 | zero =>
  intro f u hf _ h;obtain ⟨g,rfl⟩:∃g,f=g+1:=⟨f-1,by omega⟩;simp only[ndF];rw[if_pos (by simpa using h)]
 | succ d ih =>
  intro f u hf h1 h2;obtain ⟨g,rfl⟩:∃g,f=g+1:=⟨f-1,by omega⟩;have h1:=h1 (by omega);have hp:1≤10^d:=Nat.one_le_pow _ _ (by omega);have e:10^(d+1)=10*10^d:=by rw[Nat.pow_succ,Nat.mul_comm]
  have e2:10^(d+1+1)=10*10^(d+1):=by rw[Nat.pow_succ,Nat.mul_comm]
  simp only[ndF];rw[if_neg (by omega),ih g (u / 10) (by omega) (fun _=>by rw[Nat.le_div_iff_mul_le (by omega)];omega) (by rw[Nat.div_lt_iff_lt_mul (by omega)];omega)]
theorem ndg_of {d u:Nat} (hd:d<64) (h1:0<d→10^d≤u) (h2:u<10^(d+1)):ndg u=d+1:=ndF_of d 64 u hd h1 h2
theorem e2p {u:Nat} (h:u<10):ndg u=1:=ndg_of (by omega) (fun h=>by omega) (by simpa using h)
theorem ndF_up:∀(f u:Nat),u<10^(f+1)→∀g,f≤g→ndF g u=ndF f u:=by
 intro f;induction f with
 | zero=>intro u h g _;cases g with
  | zero=>rfl
  | succ g=>simp only[ndF];rw[if_pos (by simpa using h)]
 | succ f ih =>
  intro u h g hg;obtain ⟨k,rfl⟩:∃k,g=k+1:=⟨g-1,by omega⟩;simp only[ndF];split
  ·rfl
  ·rw[ih (u / 10) (by rw[Nat.div_lt_iff_lt_mul (by omega)];rw[Nat.pow_succ] at h;exact h) k (by omega)]
theorem ndg_step {u:Nat} (h:10≤u) (hu:u<10^63):ndg u=ndg (u / 10)+1:=by
 unfold ndg
 conv=>lhs;unfold ndF
 rw[if_neg (by omega),ndF_up 63 (u / 10) (Nat.lt_of_le_of_lt (Nat.div_le_self _ _) (Nat.lt_of_lt_of_le hu (Nat.pow_le_pow_right (by omega) (by omega)))) 64 (by omega)]
theorem a2u {u:Nat} (h:u<10):decI u=[((48+u:Nat):Int)]:=by
 unfold decI;rw[e2p h];simp only[dgs,List.nil_append];rw[Nat.mod_eq_of_lt h]
theorem h2i {u:Nat} (h:10≤u) (hu:u<10^63):decI u=decI (u / 10)++[((48+u % 10:Nat):Int)]:=by
 unfold decI;rw[ndg_step h hu];rfl
end Go.Plim

namespace Go.Plim
set_option linter.unusedVariables false
def ofN (x:Nat):Wd:=(((x / 18446744073709551616:Nat):Int),((x % 18446744073709551616:Nat):Int))
end Go.Plim

namespace Go.Plim
set_option linter.unusedVariables false
end Go.Plim

namespace Go.Proofs.YtjffajodppnejaaGreatDoor
open Go.Flat Go.Plim
set_option linter.unusedVariables false
set_option linter.unusedSimpArgs false
end Go.Proofs.YtjffajodppnejaaGreatDoor
namespace Go.Proofs.YtjffajodppnejaaGreatDoor
open Go.Flat Go.Plim
set_option linter.unusedVariables false
end Go.Proofs.YtjffajodppnejaaGreatDoor
namespace Go.Proofs.YtjffajodppnejaaGreatDoor
open Go.Flat Go.Plim
set_option linter.unusedVariables false
set_option linter.unusedSimpArgs false
theorem c2x (n:Nat):((List.range 100).all fun x=>match k0d (n+1) (x:Int) with | some r=>decide (r=toB (decI x)) | none=>false)=true:=by kernel_rfl
theorem c2w (n:Nat) {x:Nat} (h:x<100):k0d (n+1) (x:Int)=some (toB (decI x)):=by
 have:=List.all_eq_true.1 (c2x n) x (List.mem_range.2 h);cases hs:k0d (n+1) (x:Int) with
 | none=>simp only[hs] at this;cases this
 | some r=>simp only[hs,decide_eq_true_eq] at this;rw[this]
end Go.Proofs.YtjffajodppnejaaGreatDoor

namespace Go.Plim
open Go.Flat
set_option linter.unusedVariables false
set_option linter.unusedSimpArgs false
def decU (u:Nat):List UInt8:=if u<10 then [UInt8.ofNat (48+u)] else decU (u / 10)++[UInt8.ofNat (48+u % 10)]
theorem h0a {u:Nat} (h:u<10):decU u=[UInt8.ofNat (48+u)]:=by rw[decU,if_pos h]
theorem j0l {u:Nat} (h:¬u<10):decU u=decU (u / 10)++[UInt8.ofNat (48+u % 10)]:=by rw[decU,if_neg h]
theorem u8n {a:Nat} (h:a<256):(UInt8.ofNat a).toNat=a:=by simp;omega
theorem w1p:∀(u:Nat),∀c∈decU u,c≠58:=by
 intro u;induction u using Nat.strongRecOn with
 | _ u ih =>
  intro c hc e;subst e;by_cases h:u<10
  ·rw[h0a h] at hc;have:=List.mem_singleton.1 hc;have:=congrArg UInt8.toNat this;rw[u8n (by omega)] at this;have e:(58:UInt8).toNat=58:=rfl;omega
  ·rw[j0l h] at hc;rcases List.mem_append.1 hc with hc | hc
   ·exact ih (u / 10) (by omega) _ hc rfl
   ·have:=List.mem_singleton.1 hc;have:=congrArg UInt8.toNat this;rw[u8n (by omega)] at this;have e:(58:UInt8).toNat=58:=rfl;omega
theorem w1n (u:Nat):0<(decU u).length:=by
 by_cases h:u<10
 ·rw[h0a h];simp
 ·rw[j0l h];simp
theorem decU_inj:∀(a b:Nat),decU a=decU b→a=b:=by
 intro a;induction a using Nat.strongRecOn with
 | _ a ih =>
  intro b h;by_cases ha:a<10
  ·by_cases hb:b<10
   ·rw[h0a ha,h0a hb] at h;have:=congrArg UInt8.toNat (List.cons.inj h).1;rw[u8n (by omega),u8n (by omega)] at this;omega
   ·rw[h0a ha,j0l hb] at h;have h1:=congrArg List.length h;have:=w1n (b / 10);simp only[List.length_append,List.length_cons,List.length_nil] at h1;omega
  ·by_cases hb:b<10
   ·rw[j0l ha,h0a hb] at h;have h1:=congrArg List.length h;have:=w1n (a / 10);simp only[List.length_append,List.length_cons,List.length_nil] at h1;omega
   ·rw[j0l ha,j0l hb] at h;obtain ⟨h1,h2⟩:=List.append_inj' h rfl;have:=ih (a / 10) (by omega) _ h1;have h3:=congrArg UInt8.toNat (List.cons.inj h2).1;rw[u8n (by omega),u8n (by omega)] at h3;omega
theorem h2m:∀ {a b x y:List UInt8},(∀c∈a,c≠58)→(∀c∈b,c≠58)→a++58::x=b++58::y→a=b∧x=y:=by
 intro a;induction a with
 | nil =>
  intro b x y _ hb h;cases b with
  | nil=>exact ⟨rfl,(List.cons.inj h).2⟩
  | cons c b=>exact absurd (List.cons.inj h).1.symm (hb c (by simp))
 | cons c a ih =>
  intro b x y ha hb h;cases b with
  | nil=>exact absurd (List.cons.inj h).1 (ha c (by simp))
  | cons d b =>
   obtain ⟨h1,h2⟩:=List.cons.inj h;obtain ⟨h3,h4⟩:=ih (fun e he=>ha e (by simp[he])) (fun e he=>hb e (by simp[he])) h2;exact ⟨by rw[h1,h3],h4⟩
def preK (s:List UInt8):List UInt8:=decU s.length++58::s
theorem v1l {s t x y:List UInt8} (h:preK s++x=preK t++y):s=t∧x=y:=by
 unfold preK at h;rw[List.append_assoc,List.append_assoc] at h;obtain ⟨h1,h2⟩:=h2m (w1p _) (w1p _) h;exact List.append_inj h2 (decU_inj _ _ h1)
def keyB (l:List (List UInt8×List UInt8)):List UInt8:=l.flatMap fun x=>preK x.1++preK x.2
theorem r0e (x:List UInt8×List UInt8) (l:List (List UInt8×List UInt8)):keyB (x::l)=preK x.1++(preK x.2++keyB l):=by simp[keyB,List.append_assoc]
theorem f2r (l:List (List UInt8×List UInt8)) (x:List UInt8×List UInt8):keyB (l++[x])=keyB l++preK x.1++preK x.2:=by simp[keyB,List.append_assoc]
theorem d2r (s x:List UInt8):preK s++x≠[]:=by
 intro h;have:=congrArg List.length h;unfold preK at this;simp at this
theorem v1y:∀(a b:List (List UInt8×List UInt8)),keyB a=keyB b→a=b:=by
 intro a;induction a with
 | nil =>
  intro b h;cases b with
  | nil=>rfl
  | cons y b=>rw[r0e] at h;exact absurd h.symm (d2r _ _)
 | cons x a ih =>
  intro b h;cases b with
  | nil=>rw[r0e] at h;exact absurd h (d2r _ _)
  | cons y b =>
   rw[r0e,r0e] at h;obtain ⟨h1,h2⟩:=v1l h;obtain ⟨h3,h4⟩:=v1l h2;rw[ih b h4,show x=y from Prod.ext h1 h3]
end Go.Plim

namespace Go.Proofs.YtjffajodppnejaaGreatDoor
open Go.Flat Go.Plim
set_option linter.unusedVariables false
set_option linter.unusedSimpArgs false
noncomputable def m0f (n x:Nat):Bool:=match strconv_Itoa (n+6) (x:Int) with | some r=>decide (r=toB (decI x)) | none=>false
theorem itoa_1 (n:Nat):((List.range 100).all fun x=>m0f n (x+100))=true:=by kernel_rfl
theorem itoa_2 (n:Nat):((List.range 100).all fun x=>m0f n (x+200))=true:=by kernel_rfl
theorem itoa_3 (n:Nat):((List.range 100).all fun x=>m0f n (x+300))=true:=by kernel_rfl
theorem itoa_4 (n:Nat):((List.range 100).all fun x=>m0f n (x+400))=true:=by kernel_rfl
theorem itoa_5 (n:Nat):((List.range 100).all fun x=>m0f n (x+500))=true:=by kernel_rfl
theorem itoa_6 (n:Nat):((List.range 100).all fun x=>m0f n (x+600))=true:=by kernel_rfl
theorem itoa_7 (n:Nat):((List.range 100).all fun x=>m0f n (x+700))=true:=by kernel_rfl
theorem itoa_8 (n:Nat):((List.range 100).all fun x=>m0f n (x+800))=true:=by kernel_rfl
theorem itoa_9 (n:Nat):((List.range 100).all fun x=>m0f n (x+900))=true:=by kernel_rfl
theorem itoa_10 (n:Nat):m0f n 1000=true:=by kernel_rfl
theorem itoa_at {n x:Nat} (h:m0f n x=true):strconv_Itoa (n+6) (x:Int)=some (toB (decI x)):=by
 unfold m0f at h;cases hs:strconv_Itoa (n+6) (x:Int) with
 | none=>rw[hs] at h;cases h
 | some r=>rw[hs] at h;rw[of_decide_eq_true h]
theorem k0i {n a x:Nat} (h:((List.range 100).all fun x=>m0f n (x+a))=true) (h1:a≤x) (h2:x<a+100):m0f n x=true:=by
 have:=List.all_eq_true.1 h (x-a) (List.mem_range.2 (by omega))
 rwa [show x-a+a=x by omega] at this
theorem toB_decI:∀u:Nat,u<10^63→toB (decI u)=decU u:=by
 intro u;induction u using Nat.strongRecOn with
 | _ u ih =>
  intro hu;have one:∀d:Nat,d<10→toB [((48+d:Nat):Int)]=[UInt8.ofNat (48+d)]:=by
   intro d hd;have:∀d:Fin 10,toB [((48+d.val:Nat):Int)]=[UInt8.ofNat (48+d.val)]:=by decide +kernel
   exact this ⟨d,hd⟩
  by_cases h:u<10
  ·rw[a2u h,h0a h,one u h]
  ·rw[h2i (by omega) hu,j0l h,x1n,ih (u / 10) (by omega) (by omega),one (u % 10) (by omega)]
theorem itoa_val (n:Nat) {x:Nat} (h:x≤1000):strconv_Itoa (n+6) (x:Int)=some (decU x):=by
 rw[←toB_decI x (by omega)];by_cases h1:x<100
 ·rw[b1c,z0n,s0s];simp only[tfd,if_true];rw[if_pos (by omega),if_pos (by omega),c2w (n+2) h1];rfl
 ·have hc:(100≤x∧x<200)∨(200≤x∧x<300)∨(300≤x∧x<400)∨(400≤x∧x<500)∨(500≤x∧x<600)∨(600≤x∧x<700)∨(700≤x∧x<800)∨(800≤x∧x<900)∨(900≤x∧x<1000)∨x=1000:=by omega
  refine itoa_at ?_;rcases hc with ⟨a,b⟩ | ⟨a,b⟩ | ⟨a,b⟩ | ⟨a,b⟩ | ⟨a,b⟩ | ⟨a,b⟩ | ⟨a,b⟩ | ⟨a,b⟩ | ⟨a,b⟩ | rfl
  ·exact k0i (itoa_1 n) a b
  ·exact k0i (itoa_2 n) a b
  ·exact k0i (itoa_3 n) a b
  ·exact k0i (itoa_4 n) a b
  ·exact k0i (itoa_5 n) a b
  ·exact k0i (itoa_6 n) a b
  ·exact k0i (itoa_7 n) a b
  ·exact k0i (itoa_8 n) a b
  ·exact k0i (itoa_9 n) a b
  ·exact itoa_10 n
def d1k (l:List Lab):Prop:=l.length≤40∧∀x∈l,x.1.length≤1000∧x.2.length≤1000
theorem d2f (n:Nat) (l:List Lab) (hL:l.length≤9223372036854775807):∀(rest pre:List Lab) (f:Nat) (ix len:Int),l=pre++rest→ix=pre.length→len=l.length→rest.length<f→pre.length≤40 →
  (f0k n f (l,len,ix,())=some (.inl ())∧l.length≤40∧∀x∈rest,x.1.length≤1000∧x.2.length≤1000)∨f0k n f (l,len,ix,())=some (.inr 0):=by
 intro rest;induction rest with
 | nil =>
  intro pre f ix len hl hi hn hf h40;obtain ⟨f,rfl⟩:∃g,f=g+1:=⟨f-1,by simp at hf;omega⟩;left;refine ⟨?_,by rw[hl,List.append_nil];exact h40,by simp⟩;rw[h0p];simp only[tfd,if_neg (idxe hl hi hn)]
 | cons x rest ih =>
  intro pre f ix len hl hi hn hf h40;obtain ⟨f,rfl⟩:∃g,f=g+1:=⟨f-1,by simp at hf;omega⟩;have hlen:=congrArg List.length hl;simp at hlen;rw[h0p];simp only[tfd,if_pos (idx hl hi hn),b0v hl hi,obs];rw[w64 (x:=ix+1) (by omega) (by omega)];by_cases h1:ix=40
  ·right;rw[if_pos h1]
  rw[if_neg h1];by_cases h2:(1000:Int)<x.1.length
  ·right;rw[if_pos h2]
  rw[if_neg h2];by_cases h3:(1000:Int)<x.2.length
  ·right;rw[if_pos h3]
  rw[if_neg h3];rcases ih (pre++[x]) f (ix+1) len (idxl hl) (idxs hi) hn (by simp at hf;omega) (by simp;omega) with ⟨k1,k2,k3⟩ | k
  ·left;refine ⟨k1,k2,fun y hy => ?_⟩;rcases List.mem_cons.1 hy with rfl | hy
   ·omega
   ·exact k3 y hy
  ·exact .inr k
theorem short05 (n:Nat) (l:List Lab) (hL:l.length≤9223372036854775807):l0j (n+1) l=some 0∨(l0j (n+1) l=some 1∧d1k l):=by
 rw[z0d];rcases d2f n l hL l [] a0b 0 _ rfl rfl rfl (by unfold a0b;omega) (by simp) with ⟨h,h1,h2⟩ | h
 ·right;refine ⟨by rw[h];rfl,h1,h2⟩
 ·left;rw[h];rfl
theorem w1o (u:Nat):(decU u).length≤u+1:=by
 induction u using Nat.strongRecOn with
 | _ u ih =>
  by_cases h:u<10
  ·rw[h0a h];simp
  ·rw[j0l h];have:=ih (u / 10) (by omega);simp only[List.length_append,List.length_cons,List.length_nil];omega
theorem k1b {s:List UInt8} (h:s.length≤1000):(preK s).length≤2002:=by
 have:=w1o s.length;unfold preK;simp only[List.length_append,List.length_cons];omega
theorem keyB_len:∀(l:List Lab),(∀x∈l,x.1.length≤1000∧x.2.length≤1000)→(keyB l).length≤4004*l.length:=by
 intro l;induction l with
 | nil=>intro _;simp[keyB]
 | cons x l ih =>
  intro h;have h1:=h x (by simp);have:=ih fun y hy=>h y (by simp[hy])
  have a:=k1b h1.1;have b:=k1b h1.2;rw[r0e];simp only[List.length_append,List.length_cons];omega
theorem writeS (n:Nat) (b s:List UInt8) (h:b.length+s.length≤140737488355328):a0i (n+1) b s=some ((s.length:Int),(false,b++s)):=by
 rw[e0l];unfold e0m;rw[decide_eq_true h,tft]
theorem writeC (n:Nat) (b:List UInt8) (h:b.length+1≤140737488355328):b0m (n+1) b 58=some (false,b++[58]):=by
 rw[k0c];unfold i0k;rw[decide_eq_true h];rfl
theorem f2p (n:Nat) (b s:List UInt8) (hb:b.length≤1000000) (hs:s.length≤1000) {γ:Type} (g:Int×(Bool×List UInt8)→Option γ) :
  (a0a (strconv_Itoa (n+6) (((List.length s):Nat):Int)) fun r0=>a0a (a0i (n+6) b r0) fun r1=>a0a (b0m (n+6) r1.2.2 (58:Int)) fun r2=>a0a (a0i (n+6) r2.2 s) g)=g ((s.length:Int),(false,b++preK s)):=by
 have hd:=w1o s.length;rw[itoa_val n hs,obs,writeS (n+5) b _ (by omega),obs,writeC (n+5) _ (by simp only[List.length_append];omega),obs,
  writeS (n+5) _ s (by simp only[List.length_append,List.length_cons,List.length_nil];omega),obs]
 simp[preK,List.append_assoc]
theorem key_l6 (n:Nat) (b:List UInt8) (l:List Lab) (len i:Int) (x:Lab) (f:Nat) (hb:b.length≤900000) (hx:x.1.length≤1000∧x.2.length≤1000) :
  f0o (n+6) (f+3) (b,l,len,i,x,(0:Int),())=some (.inl (b++preK x.1++preK x.2,(l,(len,(i,()))))):=by
 have a:=k1b hx.1;rw[l0s,decide_eq_true (by decide),tft,decide_eq_true (by decide),tft];refine (f2p n b x.1 (by omega) hx.1 _).trans ?_;simp only;rw[w64 (by decide) (by decide),show (0:Int)+1=1 by rfl];show f0o (n+6) (f+1+1) (b++preK x.1,l,len,i,x,(1:Int),())=_;rw[l0s,decide_eq_true (by decide),tft,decide_eq_false (by decide),tff,decide_eq_true (by decide),tft];refine (f2p n (b++preK x.1) x.2 (by simp only[List.length_append];omega) hx.2 _).trans ?_;simp only;rw[w64 (by decide) (by decide),show (1:Int)+1=2 by rfl]
 show f0o (n+6) (f+1) (b++preK x.1++preK x.2,l,len,i,x,(2:Int),())=_;rw[l0s,decide_eq_false (by decide),tff]
theorem key_l3 (n:Nat) (l:List Lab) (h:d1k l):∀(rest pre:List Lab) (f:Nat) (i:Int),l=pre++rest→i=pre.length→rest.length<f →
  j0m (n+6) f (keyB pre,l,(l.length:Int),i,())=some (.inl (keyB l,())):=by
 intro rest;induction rest with
 | nil =>
  intro pre f i hl hi hf;obtain ⟨f,rfl⟩:∃g,f=g+1:=⟨f-1,by simp at hf;omega⟩;rw[r0p];simp only[tfd,if_neg (idxe hl hi rfl)];rw[hl,List.append_nil]
 | cons x rest ih =>
  intro pre f i hl hi hf;obtain ⟨f,rfl⟩:∃g,f=g+1:=⟨f-1,by simp at hf;omega⟩;have hlen:=congrArg List.length hl;have h40:=h.1;simp at hlen;have hk:=keyB_len pre fun y hy=>h.2 y (by rw[hl];simp[hy])
  rw[r0p];simp only[tfd,if_pos (idx hl hi rfl),b0v hl hi,obs];obtain ⟨g,hg⟩:∃g,a0b=g+3:=⟨a0b-3,by unfold a0b;omega⟩;have:=key_l6 n (keyB pre) l (l.length:Int) i x g (by omega) (h.2 x (by rw[hl];simp));rw[←hg] at this;rw[this,obs,a0y];simp only;rw[w64 (x:=i+1) (by omega) (by omega),←f2r];exact ih (pre++[x]) f (i+1) (idxl hl) (idxs hi) (by simp at hf;omega)
theorem m1o (n:Nat) {l:List Lab} (h:d1k l):d1b (n+7) l=some (keyB l):=by
 rw[q1l];have:=key_l3 n l h l [] a0b 0 rfl rfl (by have:=h.1;unfold a0b;omega)
 change a0a (j0m (n+6) a0b (keyB [],l,(l.length:Int),0,())) _=_
 rw[this,obs,a0y];rw[b0u];rfl
end Go.Proofs.YtjffajodppnejaaGreatDoor

namespace Go.Plim
open Go.Flat
set_option linter.unusedVariables false
set_option linter.unusedSimpArgs false
set_option linter.unusedSectionVars false
section
variable {κ ε:Type} [DecidableEq κ]
def addF (ks:List κ) (k:κ):List κ:=if k∈ks then ks else ks++[k]
def firsts (l:List (κ×ε)):List κ:=l.foldl (fun ks x=>addF ks x.1) []
theorem firsts_snoc (l:List (κ×ε)) (x:κ×ε):firsts (l++[x])=addF (firsts l) x.1:=by simp[firsts]
theorem mem_addF {ks:List κ} {k j:κ}:j∈addF ks k↔j∈ks∨j=k:=by
 unfold addF;split
 ·rename_i h;exact ⟨.inl,fun q=>q.elim id fun e=>e ▸ h⟩
 ·simp
theorem nodup_addF {ks:List κ} (h:ks.Nodup) (k:κ):(addF ks k).Nodup:=by
 unfold addF;split
 ·exact h
 ·rename_i hk;rw[List.nodup_append];exact ⟨h,by simp,fun a ha b hb=>by simp at hb;subst hb;exact fun e=>hk (e ▸ ha)⟩
theorem list_snoc {α:Type} {P:List α→Prop} (h0:P []) (h1:∀l x,P l→P (l++[x])) (l:List α):P l:=by
 have:∀(r:List α),P r.reverse:=by
  intro r;induction r with
  | nil=>exact h0
  | cons x r ih=>rw[List.reverse_cons];exact h1 _ _ ih
 have:=this l.reverse
 rwa [List.reverse_reverse] at this
theorem mem_firsts {l:List (κ×ε)} {k:κ}:k∈firsts l↔∃x∈l,x.1=k:=by
 induction l using list_snoc with
 | h0=>simp[firsts]
 | h1 l x ih =>
  rw[firsts_snoc,mem_addF,ih];constructor
  ·rintro (⟨y,hy,e⟩ | e)
   ·exact ⟨y,by simp[hy],e⟩
   ·exact ⟨x,by simp,e.symm⟩
  ·rintro ⟨y,hy,e⟩;rcases List.mem_append.1 hy with hy | hy
   ·exact .inl ⟨y,hy,e⟩
   ·simp at hy;subst hy;exact .inr e.symm
theorem nodup_firsts (l:List (κ×ε)):(firsts l).Nodup:=by
 induction l using list_snoc with
 | h0=>simp[firsts]
 | h1 l x ih=>rw[firsts_snoc];exact nodup_addF ih _
theorem firsts_len (l:List (κ×ε)):(firsts l).length≤l.length:=by
 induction l using list_snoc with
 | h0=>simp[firsts]
 | h1 l x ih =>
  rw[firsts_snoc];unfold addF;split<;>simp<;>omega
def ofK (k:κ) (l:List (κ×ε)):List (κ×ε):=l.filter fun y=>decide (y.1=k)
theorem ofK_snoc (k:κ) (l:List (κ×ε)) (x:κ×ε):ofK k (l++[x])=if x.1=k then ofK k l++[x] else ofK k l:=by
 unfold ofK;by_cases h:x.1=k<;>simp[h]
theorem ofK_none {k:κ} {l:List (κ×ε)} (h:k ∉ firsts l):ofK k l=[]:=by
 rw[ofK,List.filter_eq_nil_iff];intro y hy e;exact h (mem_firsts.2 ⟨y,hy,of_decide_eq_true e⟩)
variable (key:κ→List UInt8) (inj:∀a b,key a=key b→a=b)
def valM (f:κ→Int) (ks:List κ):List (List UInt8×Int):=ks.map fun k=>(key k,f k)
theorem valM_len (f:κ→Int) (ks:List κ):(valM key f ks).length=ks.length:=by simp[valM]
theorem valM_congr {f g:κ→Int} {ks:List κ} (h:∀k∈ks,f k=g k):valM key f ks=valM key g ks:=List.map_congr_left fun k hk=>by rw[h k hk]
include inj in
theorem mget_val (f:κ→Int) (k:κ):∀(ks:List κ) (i:Nat),mget .str (.int .i64) (valM key f ks) (key k) i=none∧k ∉ ks∨∃j,mget .str (.int .i64) (valM key f ks) (key k) i=some (j,f k)∧k∈ks:=by
 intro ks;induction ks with
 | nil=>intro i;exact .inl ⟨rfl,by simp⟩
 | cons a r ih =>
  intro i;show (bif key k==key a then some (i,f a) else mget .str (.int .i64) (valM key f r) (key k) (i+1))=none∧_∨∃j,(bif key k==key a then some (i,f a) else mget .str (.int .i64) (valM key f r) (key k) (i+1))=some (j,f k)∧_;by_cases h:k=a
  ·subst h;exact .inr ⟨i,by simp,by simp⟩
  ·have:(key k==key a)=false:=by
    cases hq:(key k==key a) with
    | false=>rfl
    | true=>exact absurd (inj _ _ (eq_of_beq hq)) h
   rw[this,cond_false];rcases ih (i+1) with ⟨h1,h2⟩ | ⟨j,h1,h2⟩
   ·exact .inl ⟨h1,by simp[h,h2]⟩
   ·exact .inr ⟨j,h1,by simp[h2]⟩
include inj in
theorem mgetI_val (f:κ→Int) (ks:List κ) (k:κ):mgetI .str .i64 (valM key f ks) (key k)=if k∈ks then (f k,true) else (0,false):=by
 unfold mgetI;rcases mget_val key inj f k ks 0 with ⟨h1,h2⟩ | ⟨j,h1,h2⟩
 ·rw[h1,if_neg h2]
 ·rw[h1,if_pos h2]
include inj in
theorem mput_val {f g:κ→Int} {k:κ} {v:Int}:∀ {ks:List κ},ks.Nodup→g k=v→(∀j∈ks,j≠k→g j=f j)→mput .str (.int .i64) (valM key f ks) (key k) v=valM key g (addF ks k):=by
 intro ks;induction ks with
 | nil=>intro _ h1 _;subst h1;rfl
 | cons a r ih =>
  intro hn h1 h2;rw[List.nodup_cons] at hn;show (bif key k==key a then (key a,v)::valM key f r else (key a,f a)::mput .str (.int .i64) (valM key f r) (key k) v)=_;by_cases h:k=a
  ·subst h;have:addF (k::r) k=k::r:=by simp[addF]
   rw[this];simp only[beq_self_eq_true,cond_true];show _=(key k,g k)::valM key g r;rw[h1,valM_congr key fun j hj=>(h2 j (by simp[hj]) fun e=>hn.1 (e ▸ hj)).symm]
  ·have hb:(key k==key a)=false:=by
    cases hq:(key k==key a) with
    | false=>rfl
    | true=>exact absurd (inj _ _ (eq_of_beq hq)) h
   rw[hb,cond_false,ih hn.2 h1 fun j hj=>h2 j (by simp[hj])];have:addF (a::r) k=a::addF r k:=by
    unfold addF;by_cases hk:k∈r<;>simp[h,hk]
   rw[this];show _=(key a,g a)::valM key g (addF r k);rw[h2 a (by simp) fun e=>h e.symm]
end
section
variable {κ ε:Type} [DecidableEq κ]
def cntK (l:List (κ×ε)) (k:κ):Int:=((ofK k l).length:Int)
theorem cntK_snoc (l:List (κ×ε)) (x:κ×ε) (k:κ):cntK (l++[x]) k=if x.1=k then cntK l k+1 else cntK l k:=by
 unfold cntK;rw[ofK_snoc];split<;>simp
theorem cntK_pos {l:List (κ×ε)} {k:κ}:cntK l k=0↔k ∉ firsts l:=by
 unfold cntK;constructor
 ·intro h hk;obtain ⟨x,hx,e⟩:=mem_firsts.1 hk;have:x∈ofK k l:=List.mem_filter.2 ⟨hx,by simp[e]⟩;have:0<(ofK k l).length:=List.length_pos_of_mem this;omega
 ·intro h;rw[ofK_none h];rfl
theorem cntK_le (l:List (κ×ε)) (k:κ):0≤cntK l k∧cntK l k≤l.length:=by
 unfold cntK;have:=List.length_filter_le (fun y:κ×ε=>decide (y.1=k)) l;unfold ofK;omega
def splitV (n:Nat):List (List (κ×ε))→List (κ×ε)→List (κ×ε)→List (List (κ×ε))
 | out,cur,[]=>if cur=[] then out else out++[cur]
 | out,cur,x::r=>if n<(firsts (cur++[x])).length then splitV n (out++[cur]) [x] r else splitV n out (cur++[x]) r
end
end Go.Plim

namespace Go.Plim
open Go.Flat
set_option linter.unusedVariables false
set_option linter.unusedSimpArgs false
set_option linter.unusedSectionVars false
section
variable {κ ε:Type} [DecidableEq κ]
variable (bad:κ×ε→Int) (tm:ε→Int) (late:Int)
end
section
variable {κ ε:Type} [DecidableEq κ]
theorem firsts_one (x:κ×ε):firsts [x]=[x.1]:=rfl
theorem firsts_snoc_len (l:List (κ×ε)) (x:κ×ε):(firsts (l++[x])).length=if x.1∈firsts l then (firsts l).length else (firsts l).length+1:=by
 rw[firsts_snoc,addF];split<;>simp
theorem splitV_nil (n:Nat) (out:List (List (κ×ε))) (cur:List (κ×ε)):splitV n out cur []=if cur=[] then out else out++[cur]:=by
 unfold splitV;split<;>simp_all
theorem splitV_cut {n:Nat} {out:List (List (κ×ε))} {cur r:List (κ×ε)} {x:κ×ε} (hc:(firsts cur).length=n) (hx:x.1 ∉ firsts cur):splitV n out cur (x::r)=splitV n (out++[cur]) [x] r:=by
 rw[splitV,if_pos (by rw[firsts_snoc_len,if_neg hx];omega)]
theorem splitV_go {n:Nat} {out:List (List (κ×ε))} {cur r:List (κ×ε)} {x:κ×ε} (hle:(firsts cur).length≤n) (h:¬((firsts cur).length=n∧x.1 ∉ firsts cur)):splitV n out cur (x::r)=splitV n out (cur++[x]) r:=by
 rw[splitV,if_neg (by
  rw[firsts_snoc_len];split
  ·omega
  ·rename_i hx;have:¬(firsts cur).length=n:=fun q=>h ⟨q,hx⟩
   omega)]
theorem firsts_go {n:Nat} {cur:List (κ×ε)} {x:κ×ε} (hle:(firsts cur).length≤n) (h:¬((firsts cur).length=n∧x.1 ∉ firsts cur)):(firsts (cur++[x])).length≤n:=by
 rw[firsts_snoc_len];split
 ·omega
 ·rename_i hx;have:¬(firsts cur).length=n:=fun q=>h ⟨q,hx⟩
  omega
end
end Go.Plim

namespace Go.Plim
open Go.Flat
set_option linter.unusedVariables false
set_option linter.unusedSimpArgs false
set_option linter.unusedSectionVars false
section
variable {κ ε:Type} [DecidableEq κ]
end
section
variable {κ ε:Type} [DecidableEq κ] (bad:κ×ε→Int) (tm:ε→Int) (late:Int)
end
end Go.Plim

namespace Go.Proofs.YtjffajodppnejaaGreatDoor
open Go.Flat Go.Plim
set_option linter.unusedVariables false
set_option linter.unusedSimpArgs false
abbrev c0g:=List Lab×Ev
theorem n2:((2:Int)=0)=False:=by decide
theorem l1y {α:Type} (pre rest:List α):List.drop 0 (List.take (Int.toNat ((pre.length:Nat):Int)) (pre++rest))=pre:=by simp
theorem set_mid {α:Type} (pre rest:List α) (x y:α):List.set (pre++x::rest) (Int.toNat ((pre.length:Nat):Int)) y=pre++y::rest:=by
 rw[Int.toNat_natCast,List.set_append_right _ _ (Nat.le_refl _),Nat.sub_self,List.set_cons_zero]
theorem get_mid {α:Type} (pre rest:List α) (x:α):(pre++x::rest)[Int.toNat ((pre.length:Nat):Int)]? = some x:=by
 rw[Int.toNat_natCast,List.getElem?_append_right (Nat.le_refl _),Nat.sub_self];rfl
theorem p1x (n:Nat) (s:List c0g) (h:s.length≤1000000):l0v (n+1) s=some s:=by
 rw[b1h,decide_eq_true (show (0+s.length)*56≤140737488355328 by omega)];simp only[tft,List.nil_append];by_cases h0:s.length=0
 ·rw[decide_eq_true h0,tft,List.length_eq_zero_iff.1 h0,c1y]
 ·rw[decide_eq_false h0,tff]
theorem e2u {α:Type} (A cur rest:List α):List.drop (Int.toNat ((A.length:Nat):Int)) (List.take (Int.toNat (((A++cur).length:Nat):Int)) (A++cur++rest))=cur:=by
 rw[Int.toNat_natCast,Int.toNat_natCast,List.take_left,List.drop_left]
theorem h2p (l:List c0g) (k:List Lab):(mgetI .str .i64 (valM keyB (cntK l) (firsts l)) (keyB k)).1=cntK l k:=by
 rw[mgetI_val keyB v1y];by_cases h:k∈firsts l
 ·rw[if_pos h]
 ·rw[if_neg h,cntK_pos.2 h]
theorem h2o (l:List c0g) (x:c0g):mput .str (.int .i64) (valM keyB (cntK l) (firsts l)) (keyB x.1) (cntK l x.1+1)=valM keyB (cntK (l++[x])) (firsts (l++[x])):=by
 rw[mput_val keyB v1y (f:=cntK l) (g:=cntK (l++[x])) (k:=x.1) (nodup_firsts l) (by rw[cntK_snoc,if_pos rfl]) (fun j _ hj=>by rw[cntK_snoc,if_neg fun e=>hj e.symm]),firsts_snoc]
theorem split_l8 (n:Nat) {rows:List c0g} {N:Int} (hN:1≤N) (hs:∀x∈rows,d1k x.1) (hL:rows.length≤1000000):∀(rest A cur:List c0g) (out:List (List c0g)) (f:Nat) (i:Int),rows=A++cur++rest→i=((A++cur).length:Nat)→rest.length<f →
  ((firsts cur).length:Int)≤N→out.length+cur.length+rest.length≤1000000 →
  ∃out' A' cur',c0l (n+7) f (N,rows,out,valM keyB (cntK cur) (firsts cur),(A.length:Int),rows,(rows.length:Int),i,())=some (.inl (rows,(out',((A'.length:Int),()))))∧rows=A'++cur' ∧
   splitV N.toNat out cur rest=(if cur'=[] then out' else out'++[cur'])∧out'.length≤1000000:=by
 intro rest;induction rest with
 | nil =>
  intro A cur out f i hl hi hf hc ho;obtain ⟨f,rfl⟩:∃g,f=g+1:=⟨f-1,by simp at hf;omega⟩;refine ⟨out,A,cur,?_,by rw[hl,List.append_nil],splitV_nil _ _ _,by simp at ho;omega⟩;rw[o0g];simp only[tfd,if_neg (idxe hl hi rfl),tft]
 | cons x rest ih =>
  intro A cur out f i hl hi hf hc ho;obtain ⟨f,rfl⟩:∃g,f=g+1:=⟨f-1,by simp at hf;omega⟩;have hlen:=congrArg List.length hl;simp at hlen ho;have hic:i=(A.length:Int)+cur.length:=by rw[hi];simp
  have hcl:=cntK_le cur x.1;rw[o0g,decide_eq_true (idx hl hi rfl),tft,b0v hl hi,obs,m1o n (hs x (by rw[hl];simp)),obs,h2p,valM_len];rw[w64 (x:=cntK cur x.1+1) (by omega) (by omega),w64 (x:=i+1) (by omega) (by omega),h2o];simp only[Bool.and_self,tft,tfd];have go:¬((firsts cur).length=N.toNat∧x.1 ∉ firsts cur)→∃out' A' cur',c0l (n+7) f (N,rows,out,valM keyB (cntK (cur++[x])) (firsts (cur++[x])),(A.length:Int),rows,(rows.length:Int),i+1,())=some (.inl (rows,(out',((A'.length:Int),()))))∧rows=A'++cur' ∧
    splitV N.toNat out cur (x::rest)=(if cur'=[] then out' else out'++[cur'])∧out'.length≤1000000:=by
   intro h;rw[splitV_go (by omega) h];have:=firsts_go (n:=N.toNat) (by omega) h;exact ih A (cur++[x]) out f (i+1) (by rw[hl];simp) (by rw[hi];simp;omega) (by simp at hf;omega) (by omega) (by simp;omega)
  by_cases h1:(((firsts cur).length:Nat):Int)=N
  case neg =>
   rw[if_neg h1];exact go fun k=>h1 (by have:=k.1;omega)
  rw[if_pos h1];by_cases h2:cntK cur x.1=0
  case neg =>
   rw[if_neg h2];exact go fun k=>h2 (cntK_pos.2 k.2)
  have hx:=cntK_pos.1 h2;have hcp:0<cur.length:=by
   have:=firsts_len cur;omega
  rw[if_pos h2,if_pos (by omega),if_pos (by omega),g0r,if_pos (by simp only[Bool.and_eq_true,decide_eq_true_eq];omega),splitV_cut (by omega) hx];have hm:List.drop (Int.toNat ((A.length:Nat):Int)) (List.take (Int.toNat i) rows)=cur:=by rw[hi,hl];exact e2u A cur (x::rest)
  rw[hm,p1x (n+5) cur (by omega),obs,if_pos (by omega)];have e0:mput .str (.int .i64) ([]:List (List UInt8×Int)) (keyB x.1) (IntKind.wrap .i64 ((mgetI .str .i64 ([]:List (List UInt8×Int)) (keyB x.1)).1+1))=valM keyB (cntK [x]) (firsts [x]):=by
   have a:=h2p [] x.1;have b:=h2o [] x
   change (mgetI .str .i64 ([]:List (List UInt8×Int)) (keyB x.1)).1=_ at a
   change mput .str (.int .i64) ([]:List (List UInt8×Int)) (keyB x.1) _=_ at b
   rw[a];have h0:cntK ([]:List c0g) x.1=0:=rfl;rw[h0] at b ⊢;rw[w64 (by decide) (by decide)];exact b
  rw[e0];have:=ih (A++cur) [x] (out++[cur]) f (i+1) (by rw[hl];simp) (by rw[hi];simp;omega) (by simp at hf;omega) (by rw[firsts_one];simp;omega) (by simp;omega);rw[←hi] at this;exact this
def splitN (N:Int) (rows:List c0g):List (List c0g):=if N<1 then [] else splitV N.toNat [] [] rows
theorem tail_of {α:Type} (A cur:List α):List.drop (Int.toNat ((A.length:Nat):Int)) (List.take (Int.toNat (((A++cur).length:Nat):Int)) (A++cur))=cur:=by
 rw[Int.toNat_natCast,Int.toNat_natCast,List.take_length,List.drop_left]
theorem u1l (n:Nat) (N:Int) {rows:List c0g} (hs:∀x∈rows,d1k x.1) (hL:rows.length≤1000000):d0k (n+8) N rows=some (splitN N rows):=by
 rw[show n+8=(n+6)+2 by omega,f1o];unfold splitN;simp only[Bool.and_self,tft,tfd];by_cases h1:N<1
 ·rw[if_pos h1,if_pos h1]
 rw[if_neg h1,if_neg h1];obtain ⟨out',A',cur',e1,e2,e3,e4⟩:=split_l8 n (N:=N) (by omega) hs hL rows [] [] [] a0b 0 rfl rfl (by unfold a0b;omega) (by simp[firsts];omega) (by simp;omega)
 change a0a (c0l (n+7) a0b (N,rows,[],valM keyB (cntK ([]:List c0g)) (firsts ([]:List c0g)),((([]:List c0g).length:Nat):Int),rows,(rows.length:Int),0,())) _=_
 have hlen:=congrArg List.length e2;simp at hlen;rw[e1,obs,a0y,e3];dsimp only;by_cases h2:cur'=[]
 ·subst h2;rw[if_neg (by simp at hlen;omega),if_pos rfl]
 ·have hp:=List.length_pos_iff.2 h2;have hm:List.drop (Int.toNat ((A'.length:Nat):Int)) (List.take (Int.toNat ((rows.length:Nat):Int)) rows)=cur':=by rw[e2];exact tail_of A' cur'
  rw[if_pos (by omega),if_pos (by omega),g0r,if_pos (by simp only[Bool.and_eq_true,decide_eq_true_eq];omega),hm,p1x (n+5) cur' (by omega),obs,if_pos (by omega),if_neg h2]
noncomputable def x0t (s:Sta) (x:c0g):Sta:=if (g0j s x.1 x.2).2=0 then (g0j s x.1 x.2).1 else s
noncomputable def stE:Sta→List c0g→Sta
 | s,[]=>s
 | s,x::r=>stE (x0t s x) r
noncomputable def erE:Sta→List c0g→List Int
 | _,[]=>[]
 | s,x::r=>(g0j s x.1 x.2).2::erE (x0t s x) r
theorem e2l {s:Sta} (hw:StaW s) (x:c0g):StaW (x0t s x):=by
 unfold x0t;split
 ·exact writeV_w hw _ _
 ·exact hw
theorem stE_w:∀(r:List c0g) {s:Sta},StaW s→StaW (stE s r):=by
 intro r;induction r with
 | nil=>intro s h;exact h
 | cons x r ih=>intro s h;exact ih (e2l h x)
theorem each_l3 (n:Nat) {rows:List c0g} (hr:∀x∈rows,EvW x.2) (hL:rows.length≤1000000) (s4:Sta):∀(rest pre:List c0g) (s:Sta) (E:List Int) (f:Nat) (i:Int),rows=pre++rest→i=pre.length→rest.length<f→E.length=pre.length→StaW s →
  c0n (n+24) f (s,s4,E++List.replicate rest.length (0:Int),rows,(rows.length:Int),i,())=some (.inl (stE s rest,(s4,(E++erE s rest,())))):=by
 intro rest;induction rest with
 | nil =>
  intro pre s E f i hl hi hf hE hs;obtain ⟨f,rfl⟩:∃g,f=g+1:=⟨f-1,by simp at hf;omega⟩;rw[c0u];simp only[tfd,if_neg (idxe hl hi rfl)];rfl
 | cons x rest ih =>
  intro pre s E f i hl hi hf hE hs;obtain ⟨f,rfl⟩:∃g,f=g+1:=⟨f-1,by simp at hf;omega⟩;have hlen:=congrArg List.length hl;simp at hlen;rw[c0u,decide_eq_true (idx hl hi rfl),tft,b0v hl hi,obs,b2q n hs x.1 (hr x (by rw[hl];simp)),obs];rw[show List.replicate (x::rest).length (0:Int)=0::List.replicate rest.length 0 from rfl,b0v (pre:=E) (rest:=List.replicate rest.length (0:Int)) rfl (by omega),obs];have e:i=((E.length:Nat):Int):=by omega
  rw[show Int.toNat i=Int.toNat ((E.length:Nat):Int) by rw[←e],get_mid,obs,set_mid,tfd,w64 (x:=i+1) (by omega) (by omega)];have IH:=ih (pre++[x]) (x0t s x) (E++[(g0j s x.1 x.2).2]) f (i+1) (idxl hl) (idxs hi) (by simp at hf;omega) (by simp;omega) (e2l hs x);rw[List.append_assoc,List.singleton_append] at IH;have e2:∀(z:Int),E++[z]++erE (x0t s x) rest=E++z::erE (x0t s x) rest:=fun z=>by simp
  rw[e2] at IH;have hst:stE s (x::rest)=stE (x0t s x) rest:=rfl;have her:erE s (x::rest)=(g0j s x.1 x.2).2::erE (x0t s x) rest:=rfl;rw[hst,her,←IH];unfold x0t;split<;>rfl
theorem b2i (n:Nat) {s:Sta} (hw:StaW s) {rows:List c0g} (hr:∀x∈rows,EvW x.2) (hL:rows.length≤1000000):i0q (n+25) s rows=some (stE s rows,erE s rows):=by
 rw[w0t,g0r,if_pos (by simp only[Bool.and_eq_true,decide_eq_true_eq];omega),Int.toNat_natCast];have:=each_l3 n hr hL (((0:Int),(((0:Int),((0:Int),(0:Int))),(((0:Int),((0:Int),(0:Int))),((0:Int),(0:Int))))),((0:Int),((0:Int),[]))) rows [] s [] a0b 0 rfl rfl (by unfold a0b;omega) rfl hw;rw[List.nil_append,List.nil_append] at this;rw[this,obs,a0y]
theorem y1w (n:Nat) (a:c0g) (hl:a.1.length≤9223372036854775807):j1z (n+2) a a=some true:=by
 rw[s1k,c1n n a.1 a.1 hl,obs];simp[g0r]
theorem same36_l (n:Nat) {l:List c0g} (hl:l.length≤1000000) (hw:∀r∈l,r.1.length≤9223372036854775807):∀(rest pre:List c0g) (f:Nat) (i:Int),l=pre++rest→i=pre.length→rest.length<f →
  h0m (n+2) f (l,l,(l.length:Int),i,())=some (.inl ()):=by
 intro rest;induction rest with
 | nil =>
  intro pre f i h hi hf;obtain ⟨f,rfl⟩:∃g,f=g+1:=⟨f-1,by simp at hf;omega⟩;rw[m0b];simp only[tfd,if_neg (idxe h hi rfl)]
 | cons a rest ih =>
  intro pre f i h hi hf;obtain ⟨f,rfl⟩:∃g,f=g+1:=⟨f-1,by simp at hf;omega⟩;have hlen:=congrArg List.length h;simp at hlen;rw[m0b,decide_eq_true (idx h hi rfl),tft,b0v h hi,obs,obs,y1w n a (hw a (by rw[h];simp)),obs,Bool.not_true,tff,w64 (x:=i+1) (by omega) (by omega)];exact ih (pre++[a]) f (i+1) (idxl h) (idxs hi) (by simp at hf;omega)
theorem same36 (n:Nat) {l:List c0g} (hl:l.length≤1000000) (hw:∀r∈l,r.1.length≤9223372036854775807):j0b (n+3) l l=some true:=by
 rw[b1q,decide_eq_true rfl,Bool.not_true,tff,same36_l n hl hw l [] a0b 0 rfl rfl (by unfold a0b;omega),obs,a0y]
theorem c2y (n:Nat) {rows:List c0g} (hl9:∀x∈rows,x.1.length≤9223372036854775807) (hL:rows.length≤1000000):∀(rest pre:List c0g) (f:Nat) (i:Int),rows=pre++rest→i=pre.length→rest.length<f →
  j0e (n+1) f (rows,(rows.length:Int),i,())=some (.inr 0)∨(j0e (n+1) f (rows,(rows.length:Int),i,())=some (.inl ())∧∀x∈rest,d1k x.1):=by
 intro rest;induction rest with
 | nil =>
  intro pre f i h hi hf;obtain ⟨f,rfl⟩:∃g,f=g+1:=⟨f-1,by simp at hf;omega⟩;rw[r0c];simp only[tfd,if_neg (idxe h hi rfl)];exact .inr ⟨trivial,by simp⟩
 | cons a rest ih =>
  intro pre f i h hi hf;obtain ⟨f,rfl⟩:∃g,f=g+1:=⟨f-1,by simp at hf;omega⟩;have hlen:=congrArg List.length h;simp at hlen;rw[r0c,decide_eq_true (idx h hi rfl),tft,b0v h hi,obs,w64 (x:=i+1) (by omega) (by omega)];rcases short05 n a.1 (hl9 a (by rw[h];simp)) with h1 | ⟨h1,h2⟩
  ·rw[h1,obs,decide_eq_true rfl,tft];exact .inl rfl
  ·rw[h1,obs,decide_eq_false (by decide),tff];rcases ih (pre++[a]) f (i+1) (idxl h) (idxs hi) (by simp at hf;omega) with k | ⟨k1,k2⟩
   ·exact .inl k
   ·refine .inr ⟨k1,fun x hx => ?_⟩;rcases List.mem_cons.1 hx with rfl | hx
    ·exact h2
    ·exact k2 x hx
theorem small36 (n:Nat) {rows:List c0g} (hl9:∀x∈rows,x.1.length≤9223372036854775807):w0e (n+2) rows=some 0∨(w0e (n+2) rows=some 1∧rows.length≤40∧∀x∈rows,d1k x.1):=by
 rw[o1x,tfd];by_cases h:40<rows.length
 ·rw[if_pos (by omega)];exact .inl rfl
 rw[if_neg (by omega)];rcases c2y n hl9 (by omega) rows [] a0b 0 rfl rfl (by unfold a0b;omega) with k | ⟨k1,k2⟩
 ·rw[k,obs,v0q];exact .inl rfl
 ·rw[k1,obs,a0y];exact .inr ⟨rfl,by omega,k2⟩
theorem g2n {s:Sta} {i j:Nat} (hij:i≠j) {l m:List Lab} (hlm:l≠m) (hj:j0p s m=some j) {y:Ser} (hy:y.1=l):j0p (setS s i y) m=some j:=by
 obtain ⟨x,hx,h1,h2,h3⟩:=g0z.1 hj;refine g0z.2 ⟨x,by rw[l0w,if_neg hij];exact hx,h1,h2,fun k hk z hz hn => ?_⟩;rw[l0w] at hz;by_cases hik:i=k
 ·rw[if_pos hik] at hz;split at hz
  ·cases hz;exact hlm (hy.symm.trans hn.1)
  ·cases hz
 ·rw[if_neg hik] at hz;exact h3 k hk z hz hn
structure Wrote (u:Sta) (l:List Lab) (e:Ev) (t:Sta) (i:Nat) (x:Ser) (b:Bool) (y:Ser):Prop where
 g:Goes u l e
 p:PlaceAt u l e i x b
 q:putE u.1 x e=(y,0)
 tt:t=setS u i y
 ok:StaOk t
 lb:y.1=l
 lv:LvX u y
 at_:t.2.2.2[i]? = some y
 tm:y.2.1=e.1
 xl:x.2.1<e.1
theorem wrote {u t:Sta} {l:List Lab} {e:Ev} (h:g0j u l e=(t,0)):∃i x b y,Wrote u l e t i x b y:=by
 have hok:=r1n h;obtain ⟨hg,i,z,b,y,hp,hput,rfl,_⟩:=i1m h;obtain ⟨p1,p2,p3,p4⟩:=a1e hg hp;obtain ⟨q1,q2,q3,q4,q5⟩:=b1n p1 hput;have hne:y≠ser0:=fun k=>by
  have e1:y.1=[]:=congrArg Prod.fst k;have:=q1.lab.n0;rw[e1] at this;simp at this
 exact ⟨i,z,b,y,hg,hp,hput,rfl,hok,q5.trans p2,e2n hg.st hne (by rw[q4];exact hg.lo) (by rw[q4];exact hg.ev.t1),by rw[l0w,if_pos rfl,if_pos p3],q4,p4⟩
theorem Wrote.found {u t:Sta} {l:List Lab} {e:Ev} {i x b y} (h:Wrote u l e t i x b y):j0p t l=some i:=by
 have:=g2o h.ok h.at_ (by rw[h.tt];exact h.lv);rw[h.lb] at this;exact this
theorem Wrote.ne {u t:Sta} {l m:List Lab} {e:Ev} {i x b y} (h:Wrote u l e t i x b y) (hlm:l≠m) {j:Nat} (hj:j0p u m=some j):i≠j:=by
 obtain ⟨z,hz,z1,z2,_⟩:=g0z.1 hj;rintro rfl;cases h.p with
 | found hf hx hl hlv ht=>rw[hx] at hz;cases hz;exact hlm (hl.symm.trans z1)
 | room hf hs hr =>
  obtain ⟨w,hw,hn,_⟩:=x0l.1 hr;rw[hz] at hw;cases hw;exact hn z2
theorem Wrote.kept {u t:Sta} {l m:List Lab} {e:Ev} {i x b y} (h:Wrote u l e t i x b y) (hlm:l≠m) {j:Nat} (hj:j0p u m=some j):j0p t m=some j∧t.2.2.2[j]? = u.2.2.2[j]? := by
 have hij:=h.ne hlm hj;rw[h.tt];exact ⟨g2n hij hlm hj h.lb,by rw[l0w,if_neg hij]⟩
theorem x1t (N:Nat):∀(rest:List c0g) (out:List (List c0g)) (cur:List c0g),splitV N out cur rest=out++splitV N [] cur rest:=by
 intro rest;induction rest with
 | nil =>
  intro out cur;rw[splitV_nil,splitV_nil];by_cases h:cur=[]
  ·rw[if_pos h,if_pos h,List.append_nil]
  ·rw[if_neg h,if_neg h,List.nil_append]
 | cons x rest ih =>
  intro out cur;rw[splitV,splitV];by_cases h:N<(firsts (cur++[x])).length
  ·rw[if_pos h,if_pos h,ih (out++[cur]),ih ([]++[cur]),List.nil_append,List.append_assoc]
  ·rw[if_neg h,if_neg h,ih out]
theorem y0r (N:Nat):∀(rest:List c0g) (out:List (List c0g)) (cur:List c0g),(splitV N out cur rest).flatten=out.flatten++cur++rest:=by
 intro rest;induction rest with
 | nil =>
  intro out cur;rw[splitV_nil];by_cases h:cur=[]
  ·rw[if_pos h,h];simp
  ·rw[if_neg h];simp
 | cons x rest ih =>
  intro out cur;rw[splitV];split
  ·rw[ih];simp
  ·rw[ih];simp
def Parts (N:Nat):List (List c0g)→Prop
 | []=>True
 | p::ps=>p≠[]∧(firsts p).length≤N∧(∀x r,ps.flatten=x::r→N<(firsts (p++[x])).length)∧Parts N ps
theorem r1r {N:Nat} (hN:1≤N):∀(rest cur:List c0g),cur≠[]→(firsts cur).length≤N→Parts N (splitV N [] cur rest):=by
 intro rest;induction rest with
 | nil =>
  intro cur h1 h2;rw[splitV_nil,if_neg h1];exact ⟨h1,h2,fun x r h=>by simp at h,trivial⟩
 | cons x rest ih =>
  intro cur h1 h2;rw[splitV];by_cases h:N<(firsts (cur++[x])).length
  ·rw[if_pos h,x1t];refine ⟨h1,h2,fun y r hy => ?_,ih [x] (by simp) (by rw[firsts_one];exact hN)⟩;have hy:(splitV N [] [x] rest).flatten=y::r:=hy;rw[y0r] at hy;simp at hy;rw[←hy.1];exact h
  ·rw[if_neg h];exact ih (cur++[x]) (by simp) (by omega)
theorem n1r {N:Int} (hN:1≤N) (rows:List c0g):Parts N.toNat (splitN N rows)∧(splitN N rows).flatten=rows:=by
 unfold splitN;rw[if_neg (by omega)];refine ⟨?_,by rw[y0r];simp⟩;cases rows with
 | nil=>rw[splitV_nil,if_pos rfl];trivial
 | cons x rest =>
  rw[splitV,if_neg (by rw[List.nil_append,firsts_one];simp;omega)];exact r1r (by omega) rest ([]++[x]) (by simp) (by rw[List.nil_append,firsts_one];simp;omega)
theorem stE_app:∀(a b:List c0g) (s:Sta),stE s (a++b)=stE (stE s a) b:=by
 intro a;induction a with
 | nil=>intro b s;rfl
 | cons x a ih=>intro b s;exact ih b (x0t s x)
structure Chgd (s t:Sta) (ls:List (List Lab)):Prop where
 c:t.1=s.1
 n:t.2.1=s.2.1
 w:t.2.2.1=s.2.2.1
 len:t.2.2.2.length=s.2.2.2.length
 ok:StaOk t
 pl:∀j,t.2.2.2[j]? ≠ s.2.2.2[j]? → ∃l∈ls,j0p t l=some j
theorem stE_chgd {s:Sta} (hs:StaOk s) (p:List c0g):Chgd s (stE s p) (firsts p):=by
 induction p using list_snoc with
 | h0=>exact ⟨rfl,rfl,rfl,rfl,hs,fun j h=>absurd rfl h⟩
 | h1 p x ih =>
  rw[stE_app];show Chgd s (x0t (stE s p) x) (firsts (p++[x]));rw[firsts_snoc];generalize stE s p=t at *
  unfold x0t;by_cases h:(g0j t x.1 x.2).2=0
  case neg =>
   rw[if_neg h];exact ⟨ih.c,ih.n,ih.w,ih.len,ih.ok,fun j hj=>by
    obtain ⟨l,h1,h2⟩:=ih.pl j hj
    exact ⟨l,mem_addF.2 (.inl h1),h2⟩⟩
  rw[if_pos h];obtain ⟨i,w,b,y,A⟩:=wrote (u:=t) (l:=x.1) (e:=x.2) (t:=(g0j t x.1 x.2).1) (Prod.ext rfl h);generalize (g0j t x.1 x.2).1=u at *
  have hset:=A.tt;refine ⟨by rw[hset];exact ih.c,by rw[hset];exact ih.n,by rw[hset];exact ih.w,by rw[hset];simpa [setS] using ih.len,A.ok,fun j hj => ?_⟩;by_cases hij:i=j
  ·exact ⟨x.1,mem_addF.2 (.inr rfl),by rw[←hij];exact A.found⟩
  ·have e:u.2.2.2[j]? = t.2.2.2[j]? := by rw[hset,l0w,if_neg hij]
   rw[e] at hj;obtain ⟨l,h1,h2⟩:=ih.pl j hj;have hl:x.1≠l:=by
    intro q;have hf:=h2;rw[←q] at hf;cases A.p with
    | found hf' hx hl hlv ht=>rw[hf] at hf';cases hf';exact hij rfl
    | room hf' hs' hr=>rw[hf] at hf';cases hf'
   exact ⟨l,mem_addF.2 (.inl h1),(A.kept hl h2).1⟩
noncomputable def chgN:List Ser→List Ser→Nat
 | x::xs,y::ys=>(if x=y then 0 else 1)+chgN xs ys
 | _,_=>0
theorem chgN_le (f:List Lab→Option Nat):∀(xs ys:List Ser) (L:List (List Lab)) (k:Nat),xs.length=ys.length→(∀j,ys[j]? ≠ xs[j]? → ∃l∈L,f l=some (k+j))→chgN xs ys≤L.length:=by
 intro xs;induction xs with
 | nil=>intro ys L k _ _;cases ys<;>simp[chgN]
 | cons x xs ih =>
  intro ys L k hl h;cases ys with
  | nil=>simp at hl
  | cons y ys =>
   simp at hl;rw[chgN];by_cases e:x=y
   ·rw[if_pos e,Nat.zero_add];exact ih ys L (k+1) hl fun j hj=>by
     obtain ⟨l,h1,h2⟩:=h (j+1) (by simpa using hj);exact ⟨l,h1,by rw[h2];congr 1;omega⟩
   ·rw[if_neg e];obtain ⟨l0,m0,f0⟩:=h 0 (by simpa using fun q=>e q.symm);have hlen:=List.length_erase_of_mem m0;have hpos:=List.length_pos_of_mem m0;have:=ih ys (L.erase l0) (k+1) hl fun j hj=>by
     obtain ⟨l,h1,h2⟩:=h (j+1) (by simpa using hj);refine ⟨l,?_,by rw[h2];congr 1;omega⟩;refine (List.mem_erase_of_ne ?_).2 h1;rintro rfl;rw[f0] at h2;injection h2 with h2;omega
    omega
theorem a2x {s t:Sta} {ls:List (List Lab)} (h:Chgd s t ls):chgN s.2.2.2 t.2.2.2≤ls.length :=
 chgN_le (j0p t) _ _ ls 0 h.len.symm fun j hj=>by
  obtain ⟨l,h1,h2⟩:=h.pl j hj;exact ⟨l,h1,by rw[h2,Nat.zero_add]⟩
end Go.Proofs.YtjffajodppnejaaGreatDoor

namespace Go.Plim
open Go.Flat
set_option linter.unusedVariables false
def uvB (n:Nat):List UInt8:=if n<128 then [UInt8.ofNat n] else UInt8.ofNat (n % 128+128)::uvB (n / 128)
termination_by n
decreasing_by omega
theorem n1a {n:Nat} (h:n<128):uvB n=[UInt8.ofNat n]:=by unfold uvB;rw[if_pos h]
theorem u1t {n:Nat} (h:¬n<128):uvB n=UInt8.ofNat (n % 128+128)::uvB (n / 128):=by rw[uvB];rw[if_neg h]
def txB (s:List UInt8):List UInt8:=uvB s.length++s
def labB (l:List (List UInt8×List UInt8)):List UInt8:=uvB l.length++l.flatMap fun x=>txB x.1++txB x.2
end Go.Plim

namespace Go.Plim
open Go.Flat
set_option linter.unusedVariables false
theorem d2z:∀c:Fin 256,orI .u8 (c.val:Int) 128=(c.val:Int) % 128+128:=by decide +kernel
theorem or128 (v:Int):orI .u8 (IntKind.wrap .u8 v) 128=v % 128+128:=by
 rw[t0r];have h1:=Int.emod_nonneg v (show (256:Int)≠0 by decide);have h2:=Int.emod_lt_of_pos v (show (0:Int)<256 by decide);have:=d2z ⟨(v % 256).toNat,by omega⟩;simp only at this;rw[show (((v % 256).toNat:Nat):Int)=v % 256 by omega] at this;rw[this];omega
theorem shr7 {v:Int} (h:0≤v):shrI .u64 v 7=v / 128:=by
 show v.fdiv (2^(7:Int).toNat)=_;rw[Int.fdiv_eq_ediv_of_nonneg _ (by decide)];rfl
def uvI (v:Int):List Int:=f0e (uvB v.toNat)
theorem m1z {v:Int} (h0:0≤v) (h:v<128):uvI v=[v]:=by
 unfold uvI;rw[n1a (by omega)];simp[f0e];omega
theorem i1s {v:Int} (h0:0≤v) (h:¬v<128):uvI v=(v % 128+128)::uvI (v / 128):=by
 unfold uvI;rw[u1t (by omega)];have e:(v / 128).toNat=v.toNat / 128:=by omega
 rw[e];simp[f0e];omega
end Go.Plim

namespace Go.Proofs.YtjffajodppnejaaGreatDoor
open Go.Flat Go.Plim
set_option linter.unusedVariables false
set_option linter.unusedSimpArgs false
theorem t1n {d f:Nat} (h:d<f):∃g,f=g+1:=⟨f-1,by omega⟩
theorem uint_l (n:Nat):∀(m f:Nat) (w:List Int) (v:Int),v.toNat≤m→0≤v→m<f→w.length+(uvI v).length≤140737488355328 →
  ∃w' v',e0c n f (w,v,())=some (.inl (w',(v',())))∧w'++[v']=w++uvI v∧0≤v'∧v'<128:=by
 intro m;induction m using Nat.strongRecOn with
 | _ m ih =>
  intro f w v hm h0 hf hl;obtain ⟨f,rfl⟩:=t1n hf;rw[p0s,tfd];by_cases h:v<128
  ·rw[if_neg (by omega)];exact ⟨w,v,rfl,by rw[m1z h0 h],h0,h⟩
  ·rw[i1s h0 h] at hl;simp only[List.length_cons] at hl;rw[if_pos (by omega),decide_eq_true (show (w.length+1)*1≤140737488355328 by omega),tft,or128,shr7 h0];obtain ⟨w',v',e1,e2,e3,e4⟩:=ih (v / 128).toNat (by omega) f (w++[v % 128+128]) (v / 128) (Nat.le_refl _) (by omega) (by omega) (by simp only[List.length_append,List.length_singleton];omega);exact ⟨w',v',e1,by rw[e2,i1s h0 h];simp,e3,e4⟩
theorem u1u (n:Nat) {v:Int} (h0:0≤v) (h1:v≤18446744073709551615) {w:List Int} (hl:w.length+(uvI v).length≤140737488355328):g0c (n+1) w v=some (w++uvI v):=by
 obtain ⟨w',v',e1,e2,e3,e4⟩:=uint_l n v.toNat a0b w v (Nat.le_refl _) h0 (by unfold a0b;omega) hl;have hlen:w'.length+1≤140737488355328:=by
  have:=congrArg List.length e2;simp only[List.length_append,List.length_singleton] at this;omega
 rw[s0u,e1,obs,a0y,decide_eq_true (show (w'.length+1)*1≤140737488355328 by omega),tft,t0r,Int.emod_eq_of_lt e3 (by omega),e2]
theorem r1a:∀(m:Nat) (v:Int),v.toNat≤m→0≤v→(uvI v).length≤v.toNat+1:=by
 intro m;induction m using Nat.strongRecOn with
 | _ m ih =>
  intro v hm h0;by_cases h:v<128
  ·rw[m1z h0 h];simp
  ·rw[i1s h0 h];have:=ih (v / 128).toNat (by omega) (v / 128) (Nat.le_refl _) (by omega);simp only[List.length_cons];omega
theorem y0j (a b:List UInt8):f0e (a++b)=f0e a++f0e b:=by simp[f0e]
theorem i0o (a:List UInt8):(f0e a).length=a.length:=by simp[f0e]
theorem q1y (n:Nat):uvI (n:Int)=f0e (uvB n):=by unfold uvI;rw[Int.toNat_natCast]
theorem b2y {s:List UInt8} (h:s.length≤256):(txB s).length≤1000:=by
 have:=r1a s.length (s.length:Int) (by simp) (by omega);rw[q1y,i0o] at this;unfold txB;rw[List.length_append];simp at this;omega
theorem j1w (n:Nat) {w:List Int} {s:List UInt8} (h:w.length+s.length≤140737488355328):d0o (n+1) w s=some (w++f0e s):=by
 rw[u0k,List.length_map,decide_eq_true (show (w.length+s.length)*1≤140737488355328 by omega),tft];rfl
theorem u1x (n:Nat) {w:List Int} {s:List UInt8} (hs:s.length≤256) (h:w.length≤1000000):g0d (n+2) w s=some (w++f0e (txB s)):=by
 have h1:=r1a s.length (s.length:Int) (by simp) (by omega);have h2:((s.length:Int)).toNat=s.length:=by simp
 rw[s0v,wu64 (by omega) (by omega),u1u n (by omega) (by omega) (by omega),obs,j1w n (by rw[List.length_append];omega),obs,List.append_assoc,q1y,←y0j];rfl
theorem b1x (n:Nat) (w:List Int):c0f (n+1) w=some (toB w,w):=by rw[l0p];rfl
theorem lab_len {l:List Lab} (h:LabOk l):∀x∈l,x.1.length≤256∧x.2.length≤256:=by
 have key:∀l:List Lab,∀x∈l,(x.1.length:Int)+x.2.length≤sumL l:=by
  intro l;induction l with
  | nil=>intro x hx;cases hx
  | cons y l ih =>
   intro x hx;rw[b1b];have:=c2j l;rcases List.mem_cons.1 hx with rfl | hx
   ·omega
   ·have:=ih x hx;omega
 intro x hx;have:=key l x hx;have:=h.t;omega
theorem bytes_l (n:Nat) {l:List Lab} (hl:LabOk l):∀(rest pre:List Lab) (f:Nat) (w:List Int) (ix len:Int),l=pre++rest→ix=pre.length→len=l.length→rest.length<f→w.length+2000*rest.length≤100000 →
  i0u (n+2) f (w,l,len,ix,())=some (.inl (w++f0e (rest.flatMap fun x=>txB x.1++txB x.2),())):=by
 intro rest;induction rest with
 | nil =>
  intro pre f w ix len ha hi hn hf hw;obtain ⟨f,rfl⟩:=t1n hf;rw[n0w,decide_eq_false (idxe ha hi hn),tff];simp[f0e]
 | cons x r ih =>
  intro pre f w ix len ha hi hn hf hw;obtain ⟨f,rfl⟩:=t1n hf;simp only[List.length_cons] at hw;obtain ⟨k1,k2⟩:=lab_len hl x (by rw[ha];simp);have t1:=b2y k1;have t2:=b2y k2;have hL:l.length≤1000000000000:=by have:=hl.n1;omega
  rw[n0w,decide_eq_true (idx ha hi hn),tft,b0v ha hi,obs,u1x n k1 (by omega),obs,u1x n k2 (by rw[List.length_append,i0o];omega),obs,idxw ha hi hL];rw[ih (pre++[x]) f _ (ix+1) len (idxl ha) (idxs hi) hn (by simp at hf;omega) (by simp only[List.length_append,i0o];omega)];simp only[List.flatMap_cons,y0j,List.append_assoc]
theorem t1b (n:Nat) (l:List Lab):u0b (n+7) l=some (if LabOk l then (labB l,0) else ([],8)):=by
 rw[e1r,p0k n l,obs,tfn,tfd];by_cases h:LabOk l
 case neg=>rw[if_neg h,if_neg h,if_neg (by decide)]
 rw[if_pos h,if_pos h,if_pos rfl];have hn:=h.n1;have h1:=r1a l.length (l.length:Int) (by simp) (by omega);have h2:((l.length:Int)).toNat=l.length:=by simp
 rw[wu64 (by omega) (by omega),u1u (n+5) (by omega) (by omega) (by simp only[List.length_nil];omega),obs,bytes_l (n+4) h l [] a0b _ 0 _ rfl rfl rfl (by unfold a0b;omega) (by simp only[List.nil_append];omega),obs,a0y,b1x (n+5),obs];rw[List.nil_append,q1y,←y0j,w0w];rfl
theorem wst (n:Nat) (b s:List UInt8) (hl:b.length+s.length≤100000000000000):a0i (n+1) b s=some ((s.length:Int),false,b++s):=by
 rw[e0l,e0m,tfd,if_pos (by omega)]
theorem lfu {k:Nat} (h:k≤1000000000000):a0b=(a0b-k-1)+k+1:=by unfold a0b;omega
theorem w1u:∀(l:List Lab) (p:Option (List UInt8)),chkL p l→∀x∈l,x.1.length≤64∧x.2.length≤128
 | [],_,_,x,hx=>by cases hx
 | y::l,p,h,x,hx=>by
  rcases List.mem_cons.1 hx with rfl | hx
  ·exact ⟨h.1.len,h.2.1⟩
  ·exact w1u l _ h.2.2.2 x hx
def padB (s:List UInt8) (k:Nat):List UInt8:=s++List.replicate (k-s.length) 0
theorem s0f (s:List UInt8) (k:Nat):(padB s k).length=max s.length k:=by unfold padB;simp;omega
def n8I (x:Int):List Int:=beI 8 (IntKind.wrap .u64 x)
def n8B (x:Int):List UInt8:=toB (n8I x)
theorem u0a (x:Int):(n8I x).length=8:=by simp[n8I,c0t]
theorem e2r (x:Int):(n8B x).length=8:=by simp[n8B,i0a,u0a]
theorem c2b (a b:List Int):toB (a++b)=toB a++toB b:=by simp[toB]
theorem e2q (x:Int):n8I (IntKind.wrap .i64 x)=n8I x:=by
 unfold n8I;congr 1;rw[IntKind.wrap_u64,IntKind.wrap_u64,IntKind.wrap_i64];omega
def v0o (e:Ev):List Int:=n8I e.1++(n8I e.2.1++(n8I e.2.2.1++[if e.2.2.2=true then 1 else 0]))
def d2e (e:Ev):List UInt8:=toB (v0o e)
theorem n0n (e:Ev):(v0o e).length=25:=by simp[v0o,u0a]
theorem y1f (e:Ev):(d2e e).length=25:=by simp[d2e,i0a,n0n]
def t0o (e:Ev):List UInt8:=padB (d2e e) 32
theorem h1w (e:Ev):(t0o e).length=32:=by rw[t0o,s0f,y1f];rfl
def sloI (s:Slo):List Int:=n8I s.1++(n8I s.2.1++(v0o s.2.2.1++(v0o s.2.2.2.1++(n8I s.2.2.2.2.1.1++(n8I s.2.2.2.2.1.2++(n8I s.2.2.2.2.2.1++(n8I s.2.2.2.2.2.2.1++n8I s.2.2.2.2.2.2.2)))))))
theorem v1c (s:Slo):(sloI s).length=106:=by simp[sloI,u0a,n0n]
def m0p (s:Slo):List UInt8:=padB (toB (sloI s)) 128
theorem n0i (s:Slo):(m0p s).length=128:=by rw[m0p,s0f,i0a,v1c];rfl
theorem num_l (n:Nat) (l:List Int) (hl:l.length≤1000):∀(rest pre:List Int) (f:Nat) (w:List Int) (i:Int),l=pre++rest→i=pre.length→w.length+8*rest.length≤100000 →
  m0g (n+1) (f+rest.length+1) (w,l,(l.length:Int),i,())=some (.inl (w++rest.flatMap n8I,())):=by
 intro rest;induction rest with
 | nil =>
  intro pre f w i h hi hw;rw[r0f];simp only[tfd,if_neg (idxe h hi rfl)];simp
 | cons a rest ih =>
  intro pre f w i h hi hw;have hlen:=congrArg List.length h;simp at hlen hw;rw[show f+(a::rest).length+1=(f+rest.length+1)+1 by simp;omega,r0f];simp only[tfd,if_pos (idx h hi rfl)];rw[b0v h hi,obs,b0s n w 8 8 _ rfl (by omega) (by omega) (by omega),obs,w64 (x:=i+1) (by omega) (by omega),ih (pre++[a]) f _ (i+1) (idxl h) (idxs hi) (by simp[c0t];omega)];simp[n8I]
theorem v0y (n:Nat) (w l:List Int) (hl:l.length≤1000) (hw:w.length+8*l.length≤100000):l0l (n+2) w l=some (w++l.flatMap n8I):=by
 rw[p1g];have:=num_l n l hl l [] (a0b-l.length-1) w 0 rfl rfl hw;rw[←lfu (by omega)] at this;rw[this,obs,a0y]
theorem b1j (n:Nat) (w:List Int) (e:Ev) (hw:w.length≤10000):l0k (n+3) w e=some (w++v0o e):=by
 rw[e1t,v0y n w _ (by simp) (by simp;omega),obs];have hl:(w++List.flatMap n8I [e.1,IntKind.wrap .i64 e.2.1,e.2.2.1]).length≤20000:=by simp[u0a];omega
 have e1:List.flatMap n8I [e.1,IntKind.wrap .i64 e.2.1,e.2.2.1]=n8I e.1++(n8I e.2.1++n8I e.2.2.1):=by
  simp[e2q]
 rw[e1] at hl ⊢;unfold v0o;cases h:e.2.2.2 with
 | true=>rw[tft,b0s (n+1) _ 1 1 1 rfl (by omega) (by omega) (by omega),obs,if_pos rfl,show beI 1 1=[1] from rfl];simp
 | false=>rw[tff,b0s (n+1) _ 1 1 0 rfl (by omega) (by omega) (by omega),obs,if_neg (by decide),show beI 1 0=[0] from rfl];simp
end Go.Proofs.YtjffajodppnejaaGreatDoor
