/-
 Plain proofs about the functions of this seat, part 2 of 4.
-/
import Derived.Test.YtojobamheigpbaaGreatDoorQ1
import Derived.Test.YtojobamheigpbaaGreatDoorTr
import Derived.Test.YtojobamheigpbaaGreatDoorFlatM3
namespace Go.Proofs.YtojobamheigpbaaGreatDoor
open Go.Flat
abbrev Conf:=Int×((Int×(Int×Int))×((Int×(Int×Int))×(Int×Int)))
def prt (n e:Int):Int:=(n+e-1) / e
def plc (c:Conf):Int:=1+prt c.1 16+prt c.2.2.1.1 4+prt c.2.2.1.2.1 4+prt c.2.2.1.2.2 4
structure Rng (c:Conf):Prop where
 raw:1≤c.1∧c.1≤4096
 cap:1≤c.2.2.2.1∧c.2.2.2.1≤65536
 log:1≤c.2.2.2.2∧c.2.2.2.2≤8192
 w0:1≤c.2.1.1∧c.2.1.1≤1099511627776
 w1:1≤c.2.1.2.1∧c.2.1.2.1≤1099511627776
 w2:1≤c.2.1.2.2∧c.2.1.2.2≤1099511627776
 n0:1≤c.2.2.1.1∧c.2.2.1.1≤4096
 n1:1≤c.2.2.1.2.1∧c.2.2.1.2.1≤4096
 n2:1≤c.2.2.1.2.2∧c.2.2.1.2.2≤4096
structure OkC (c:Conf):Prop where
 rng:Rng c
 m1:c.2.1.2.1 % c.2.1.1=0
 d1:c.2.1.2.1 / c.2.1.1≤c.2.2.1.1
 m2:c.2.1.2.2 % c.2.1.2.1=0
 d2:c.2.1.2.2 / c.2.1.2.1≤c.2.2.1.2.1
 pl:plc c<c.2.2.2.2
theorem t0k (n:Nat) (x e:Int) (he:1≤e) (he':e≤1000) (hx:0≤x) (hx':x≤1000000000):j0o (n+1) x e=some (prt x e):=by
 rw[r1r];have h1:¬(e=0):=by omega
 simp only[tfd,if_neg h1];rw[w64 (x:=x+e) (by omega) (by omega),w64 (x:=x+e-1) (by omega) (by omega),m0c (by omega)];have h2:0≤(x+e-1) / e:=Int.ediv_nonneg (by omega) (by omega);have h3:(x+e-1) / e≤x+e-1:=Int.ediv_le_self _ (by omega);rw[w64 (by omega) (by omega)];rfl
theorem i0i {x e:Int} (he:1≤e) (hx:0≤x):0≤prt x e∧prt x e≤x:=by
 unfold prt;refine ⟨Int.ediv_nonneg (by omega) (by omega),?_⟩;have:x+e-1<(x+1)*e:=by
  have:=Int.mul_le_mul_of_nonneg_left he (show 0≤x by omega);rw[Int.add_mul];omega
 have:=Int.ediv_lt_of_lt_mul (by omega) this;omega
theorem l2h {c:Conf} (h:Rng c):1≤plc c∧plc c≤20000:=by
 have a:=i0i (x:=c.1) (e:=16) (by omega) (by have:=h.raw;omega);have b:=i0i (x:=c.2.2.1.1) (e:=4) (by omega) (by have:=h.n0;omega);have d:=i0i (x:=c.2.2.1.2.1) (e:=4) (by omega) (by have:=h.n1;omega);have f:=i0i (x:=c.2.2.1.2.2) (e:=4) (by omega) (by have:=h.n2;omega);have:=h.raw;have:=h.n0;have:=h.n1;have:=h.n2;unfold plc;omega
theorem h1l (n:Nat) {c:Conf} (h:Rng c):j0n (n+2) c=some (plc c):=by
 have h0:=h.raw;have h1:=h.n0;have h2:=h.n1;have h3:=h.n2;rw[r1q,t0k n _ 16 (by omega) (by omega) (by omega) (by omega),t0k n _ 4 (by omega) (by omega) (by omega) (by omega),t0k n _ 4 (by omega) (by omega) (by omega) (by omega),t0k n _ 4 (by omega) (by omega) (by omega) (by omega)];simp only[obs];have a:=i0i (x:=c.1) (e:=16) (by omega) (by omega);have b:=i0i (x:=c.2.2.1.1) (e:=4) (by omega) (by omega);have d:=i0i (x:=c.2.2.1.2.1) (e:=4) (by omega) (by omega);have f:=i0i (x:=c.2.2.1.2.2) (e:=4) (by omega) (by omega)
 rw[w64 (x:=1+_) (by omega) (by omega),w64 (x:=1+_+_) (by omega) (by omega),w64 (x:=1+_+_+_) (by omega) (by omega),w64 (by omega) (by omega)];rfl
theorem in_int (n:Nat) (x a b:Int):f0r (n+1) x a b=some (decide (a≤x∧x≤b)):=by
 rw[l1e];by_cases h1:a≤x<;>by_cases h2:x≤b<;>simp[h1,h2]
theorem d2d (n:Nat) (x a b:Int):i0n (n+1) x a b=some (decide (a≤x∧x≤b)):=by
 rw[e1o];by_cases h1:a≤x<;>by_cases h2:x≤b<;>simp[h1,h2]
theorem u1i {a b:Int} (ha:1≤a∧a≤1099511627776) (hb:1≤b):IntKind.wrap .i64 (Int.tdiv a b)=a / b:=by
 rw[m0c (by omega)];have h2:0≤a / b:=Int.ediv_nonneg (by omega) (by omega);have h3:a / b≤a:=Int.ediv_le_self _ (by omega);rw[w64 (by omega) (by omega)]
theorem a1d (n:Nat) {c:Conf} (h:OkC c):d0d (n+3) c=some 0:=by
 obtain ⟨hr,m1,d1,m2,d2,pl⟩:=h;have hp:=h1l n hr;obtain ⟨raw,cap,log,w0,w1,w2,n0,n1,n2⟩:=hr;rw[a1b];simp only[in_int,d2d,obs,tfd,if_pos raw,if_pos cap,if_pos log,if_pos w0,if_pos w1,if_pos w2,if_pos n0,if_pos n1,if_pos n2];have z0:¬(c.2.1.1=0):=by omega
 have z1:¬(c.2.1.2.1=0):=by omega
 rw[u1i w1 w0.1,u1i w2 w1.1,o0l (a:=c.2.1.2.1) (by omega),o0l (a:=c.2.1.2.2) (by omega)];have l:¬(c.2.2.2.2≤plc c):=by omega
 simp only[if_neg z0,if_neg z1,if_pos m1,if_pos d1,if_pos m2,if_pos d2,tfn,tfd,hp,obs,if_neg l]
theorem e2a (n:Nat) {c:Conf} (h:¬OkC c):d0d (n+3) c=some 2:=by
 rw[a1b];simp only[in_int,d2d,obs,tfd,tfn];by_cases raw:1≤c.1∧c.1≤4096
 case neg=>rw[if_neg raw]
 rw[if_pos raw];by_cases cap:1≤c.2.2.2.1∧c.2.2.2.1≤65536
 case neg=>rw[if_neg cap]
 rw[if_pos cap];by_cases log:1≤c.2.2.2.2∧c.2.2.2.2≤8192
 case neg=>rw[if_neg log]
 rw[if_pos log];by_cases w0:1≤c.2.1.1∧c.2.1.1≤1099511627776
 case neg=>rw[if_neg w0]
 rw[if_pos w0];by_cases n0:1≤c.2.2.1.1∧c.2.2.1.1≤4096
 case neg=>rw[if_neg n0]
 rw[if_pos n0];by_cases w1:1≤c.2.1.2.1∧c.2.1.2.1≤1099511627776
 case neg=>rw[if_neg w1]
 rw[if_pos w1];by_cases n1:1≤c.2.2.1.2.1∧c.2.2.1.2.1≤4096
 case neg=>rw[if_neg n1]
 rw[if_pos n1];by_cases w2:1≤c.2.1.2.2∧c.2.1.2.2≤1099511627776
 case neg=>rw[if_neg w2]
 rw[if_pos w2];by_cases n2:1≤c.2.2.1.2.2∧c.2.2.1.2.2≤4096
 case neg=>rw[if_neg n2,if_neg n2]
 rw[if_pos n2];have hr:Rng c:=⟨raw,cap,log,w0,w1,w2,n0,n1,n2⟩;have hp:=h1l n hr;have z0:¬(c.2.1.1=0):=by omega
 have z1:¬(c.2.1.2.1=0):=by omega
 rw[u1i w1 w0.1,u1i w2 w1.1,o0l (a:=c.2.1.2.1) (by omega),o0l (a:=c.2.1.2.2) (by omega)];rw[if_neg z0,if_neg z0];by_cases m1:c.2.1.2.1 % c.2.1.1=0
 case neg=>rw[if_neg m1]
 rw[if_pos m1];by_cases d1:c.2.1.2.1 / c.2.1.1≤c.2.2.1.1
 case neg=>rw[if_neg d1,if_neg d1]
 rw[if_pos d1,if_neg z1,if_neg z1];by_cases m2:c.2.1.2.2 % c.2.1.2.1=0
 case neg=>rw[if_neg m2]
 rw[if_pos m2];by_cases d2:c.2.1.2.2 / c.2.1.2.1≤c.2.2.1.2.1
 case neg=>rw[if_neg d2,if_neg d2]
 rw[if_pos d2,if_pos d2,hp];simp only[obs];by_cases pl:c.2.2.2.2≤plc c
 ·rw[if_pos pl]
 ·exact absurd ⟨hr,m1,d1,m2,d2,by omega⟩ h
end Go.Proofs.YtojobamheigpbaaGreatDoor
namespace Go.Proofs.YtojobamheigpbaaGreatDoor
open Go.Flat Go.Plim
set_option linter.unusedVariables false
abbrev Trs:=List Slo×(List Slo×List Slo)
noncomputable instance (c:Conf):Decidable (OkC c):=Classical.propDecidable _
structure FoldOk (c:Conf) (s:Trs):Prop where
 cok:OkC c
 n0:(s.1.length:Int)=c.2.2.1.1
 n1:(s.2.1.length:Int)=c.2.2.1.2.1
 n2:(s.2.2.length:Int)=c.2.2.1.2.2
 t0:TierOk s.1 c.2.1.1
 t1:TierOk s.2.1 c.2.1.2.1
 t2:TierOk s.2.2 c.2.1.2.2
noncomputable instance (c:Conf) (s:Trs):Decidable (FoldOk c s):=Classical.propDecidable _
def mk1 (c:Conf) (s:Trs) (i:Int):Cel×Int:=tfold s.1 (i*(c.2.1.2.1 / c.2.1.1)) ((i+1)*(c.2.1.2.1 / c.2.1.1))
def mk2 (c:Conf) (s:Trs) (i:Int):Cel×Int:=tfold s.2.1 (i*(c.2.1.2.2 / c.2.1.2.1)) ((i+1)*(c.2.1.2.2 / c.2.1.2.1))
noncomputable def up1 (c:Conf) (s:Trs) (i j:Int):Trs :=
 if i*c.2.1.1 / c.2.1.2.1=j*c.2.1.1 / c.2.1.2.1 then s
 else if (mk1 c s (i*c.2.1.1 / c.2.1.2.1)).2=0∧FitsP (mk1 c s (i*c.2.1.1 / c.2.1.2.1)).1 c.2.1.2.1 (i*c.2.1.1 / c.2.1.2.1) then (s.1,(tput s.2.1 (i*c.2.1.1 / c.2.1.2.1) (mk1 c s (i*c.2.1.1 / c.2.1.2.1)).1,s.2.2))
 else s
noncomputable def up2 (c:Conf) (s:Trs) (i j:Int):Trs :=
 if i*c.2.1.1 / c.2.1.2.2=j*c.2.1.1 / c.2.1.2.2 then s
 else if (mk2 c s (i*c.2.1.1 / c.2.1.2.2)).2=0∧FitsP (mk2 c s (i*c.2.1.1 / c.2.1.2.2)).1 c.2.1.2.2 (i*c.2.1.1 / c.2.1.2.2) then (s.1,(s.2.1,tput s.2.2 (i*c.2.1.1 / c.2.1.2.2) (mk2 c s (i*c.2.1.1 / c.2.1.2.2)).1))
 else s
noncomputable def upw (c:Conf) (s:Trs) (i j:Int):Trs:=up2 c (up1 c s i j) i j
theorem s1v {c:Conf} {s:Trs} (h:FoldOk c s) (i j:Int):FoldOk c (up1 c s i j):=by
 unfold up1;split
 ·exact h
 ·split
  ·rename_i k;exact ⟨h.cok,h.n0,by simpa [tput] using h.n1,h.n2,h.t0,f1y h.t1 k.2,h.t2⟩
  ·exact h
theorem up2_ok {c:Conf} {s:Trs} (h:FoldOk c s) (i j:Int):FoldOk c (up2 c s i j):=by
 unfold up2;split
 ·exact h
 ·split
  ·rename_i k;exact ⟨h.cok,h.n0,h.n1,by simpa [tput] using h.n2,h.t0,h.t1,f1y h.t2 k.2⟩
  ·exact h
theorem upw_ok {c:Conf} {s:Trs} (h:FoldOk c s) (i j:Int):FoldOk c (upw c s i j):=up2_ok (s1v h i j) i j
theorem g2u {a w m:Int} (hw:1≤w) (h:a≤m / w):a*w≤m :=
 Int.le_trans (Int.mul_le_mul_of_nonneg_right h (by omega)) (Int.ediv_mul_le m (by omega))
def h0u (w i:Int):Prop:=0≤i∧i≤35184372088831 / w
instance (w i:Int):Decidable (h0u w i):=by unfold h0u;infer_instance
theorem h0u.mul {w i:Int} (hw:1≤w) (h:h0u w i):0≤i*w∧i*w≤35184372088831:=⟨Int.mul_nonneg h.1 (by omega),g2u hw h.2⟩
theorem n1e {x w:Int} (hw:1≤w) (h:0≤x∧x≤35184372088831):h0u w (x / w):=⟨Int.ediv_nonneg h.1 (by omega),Int.ediv_le_ediv (by omega) h.2⟩
theorem w1s {w i:Int} (hw:1≤w) (h:h0u w i):i≤35184372088831:=by
 have:=Int.ediv_le_self w (a:=35184372088831) (by decide);have:=h.2;omega
theorem g2x {a b i:Int} (ha:1≤a∧a≤1099511627776) (hb:1≤b∧b≤1099511627776) (hm:b % a=0) (h:h0u b i) :
  1≤b / a∧b / a≤1099511627776∧b / a*a=b∧0≤i*(b / a)∧i*(b / a)≤35184372088831∧(i+1)*(b / a)=i*(b / a)+b / a:=by
 have e:b / a*a=b:=by have:=Int.mul_ediv_add_emod b a;rw[Int.mul_comm];omega
 have h0:0≤b / a:=Int.ediv_nonneg (by omega) (by omega);have h1:b / a≤b:=Int.ediv_le_self _ (by omega);have h2:1≤b / a:=by
  rcases Int.lt_or_le 0 (b / a) with k | k
  ·omega
  ·have:b / a=0:=by omega
   rw[this] at e;omega
 have hi:=h.mul hb.1;have h3:0≤i*(b / a):=Int.mul_nonneg h.1 h0;have h4:i*(b / a)≤i*b:=Int.mul_le_mul_of_nonneg_left h1 h.1;exact ⟨h2,by omega,e,h3,by omega,by rw[Int.add_mul,Int.one_mul]⟩
end Go.Proofs.YtojobamheigpbaaGreatDoor
namespace Go.Proofs.YtojobamheigpbaaGreatDoor
open Go.Flat Go.Plim
set_option linter.unusedVariables false
set_option linter.unusedSimpArgs false
structure TrsW (s:Trs):Prop where
 a:∀x∈s.1,SloW x
 b:∀x∈s.2.1,SloW x
 c:∀x∈s.2.2,SloW x
theorem FoldOk.w {c:Conf} {s:Trs} (h:FoldOk c s):TrsW s:=⟨u0k h.t0,u0k h.t1,u0k h.t2⟩
theorem q0c (n:Nat) (c:Conf):d0d (n+3) c=some (if OkC c then 0 else 2):=by
 by_cases h:OkC c
 ·rw[if_pos h,a1d n h]
 ·rw[if_neg h,e2a n h]
theorem z0s (n:Nat) (c:Conf) {s:Trs} (hw:TrsW s):z0t (n+8) c s=some (if FoldOk c s then (some (c,s),0) else (none,2)):=by
 rw[v1t,q0c (n+4),u0i n _ _ hw.a,u0i n _ _ hw.b,u0i n _ _ hw.c];simp only[obs,tfn,tfd];by_cases h0:OkC c
 case neg=>rw[if_neg (mt (z02 _).1 h0),if_neg h0,if_neg (fun k:FoldOk c s=>h0 k.cok)]
 rw[if_pos ((z02 _).2 h0)];by_cases h1:(s.1.length:Int)=c.2.2.1.1
 case neg=>rw[if_neg h1,if_neg (fun k:FoldOk c s=>h1 k.n0)]
 rw[if_pos h1];by_cases h2:TierOk s.1 c.2.1.1
 case neg=>rw[if_neg (mt (z02 _).1 h2),if_neg (fun k:FoldOk c s=>h2 k.t0)]
 rw[if_pos ((z02 _).2 h2)];by_cases h3:(s.2.1.length:Int)=c.2.2.1.2.1
 case neg=>rw[if_neg h3,if_neg (fun k:FoldOk c s=>h3 k.n1)]
 rw[if_pos h3];by_cases h4:TierOk s.2.1 c.2.1.2.1
 case neg=>rw[if_neg (mt (z02 _).1 h4),if_neg (fun k:FoldOk c s=>h4 k.t1)]
 rw[if_pos ((z02 _).2 h4)];by_cases h5:(s.2.2.length:Int)=c.2.2.1.2.2
 case neg=>rw[if_neg h5,if_neg (fun k:FoldOk c s=>h5 k.n2)]
 rw[if_pos h5];by_cases h6:TierOk s.2.2 c.2.1.2.2
 case neg=>rw[if_neg (mt (z02 _).1 h6),if_neg (fun k:FoldOk c s=>h6 k.t2)]
 rw[if_pos ((z02 _).2 h6),if_pos (⟨h0,h1,h3,h5,h2,h4,h6⟩:FoldOk c s)]
theorem h2w (n:Nat) (c:Conf) {s:Trs} (hw:TrsW s):b1z (n+9) c s=some (if FoldOk c s then 0 else 2):=by
 rw[q1v,z0s n c hw];by_cases h:FoldOk c s
 ·rw[if_pos h,if_pos h];rfl
 ·rw[if_neg h,if_neg h];rfl
noncomputable def emp (c:Conf):Trs:=if OkC c then (List.replicate c.2.2.1.1.toNat s0,(List.replicate c.2.2.1.2.1.toNat s0,List.replicate c.2.2.1.2.2.toNat s0)) else ([],([],[]))
theorem h2u (n:Nat) (c:Conf):b1x (n+4) c=some (emp c):=by
 rw[q1s,q0c n];simp only[obs,tfn,tfd,tier_new];unfold emp;by_cases h:OkC c
 ·have h0:=h.rng.n0;have h1:=h.rng.n1;have h2:=h.rng.n2;rw[if_pos ((z02 _).2 h),if_pos h,if_pos h0,if_pos h1,if_pos h2]
 ·rw[if_neg (mt (z02 _).1 h),if_neg h]
theorem quo_top {w:Int} (hw:1≤w):IntKind.wrap .i64 (Int.tdiv 35184372088831 w)=35184372088831 / w:=by
 have:0≤(35184372088831:Int) / w:=Int.ediv_nonneg (by decide) (by omega);have:(35184372088831:Int) / w≤35184372088831:=Int.ediv_le_self _ (by decide);rw[m0c (by decide),w64 (by omega) (by omega)]
theorem begins_0 (n:Nat) (c:Conf) (s:Trs) (h:1≤c.2.1.1) (i:Int):s0c (n+1) (c,s) 0 i=some (decide (h0u c.2.1.1 i),(c,s)):=by
 rw[e1m];simp only[tfd,if_neg (show ¬(c.2.1.1=0) by omega),quo_top h];by_cases h0:(0:Int)≤i
 ·rw[if_pos h0];refine congrArg (fun b=>some (b,(c,s))) (decide_eq_decide.2 ⟨fun k=>⟨h0,k⟩,fun k=>k.2⟩)
 ·rw[if_neg h0,decide_eq_false (fun k:h0u c.2.1.1 i=>h0 k.1)]
theorem allE_okc (l:List Cel):∀c,b0h c→b0h (allE c l).1:=by
 induction l with
 | nil=>intro c h;exact h
 | cons x l ih =>
  intro c h;simp only[allE];split
  ·rename_i k;exact ih _ (z1m k).2.2.2.2
  ·exact p0t
theorem p0g (l:List Slo) (i k:Int):b0h (tfold l i k).1:=by
 unfold tfold;split
 ·exact p0t
 ·exact allE_okc _ _ p0t
theorem m1s {a b i:Int} (ha:1≤a∧a≤1099511627776) (hb:1≤b∧b≤1099511627776) (hm:b % a=0) (h:h0u b i) :
  IntKind.wrap .i64 (i*(b / a))=i*(b / a)∧IntKind.wrap .i64 ((IntKind.wrap .i64 (i+1))*(b / a))=(i+1)*(b / a):=by
 obtain ⟨h1,h2,h3,h4,h5,h6⟩:=g2x ha hb hm h;have:=w1s hb.1 h;have:=h.1;rw[w64 (x:=i+1) (by omega) (by omega),h6,w64 (by omega) (by omega),w64 (by omega) (by omega)];exact ⟨rfl,rfl⟩
theorem h2t (n:Nat) {c:Conf} {s:Trs} (h:FoldOk c s) {i:Int} (hb:h0u c.2.1.2.1 i):g0s (n+19) (c,s) 1 i=some ((mk1 c s i).1,((mk1 c s i).2,(c,s))):=by
 have hr:=h.cok.rng;obtain ⟨e1,e2⟩:=m1s hr.w0 hr.w1 h.cok.m1 hb;rw[k1z];simp only[tfd,if_neg (show ¬(c.2.1.1=0) by have:=hr.w0;omega),u1i hr.w1 hr.w0.1,e1,e2,l0z n h.t0,obs];rfl
theorem h2s (n:Nat) {c:Conf} {s:Trs} (h:FoldOk c s) {i:Int} (hb:h0u c.2.1.2.2 i):g0s (n+19) (c,s) 2 i=some ((mk2 c s i).1,((mk2 c s i).2,(c,s))):=by
 have hr:=h.cok.rng;obtain ⟨e1,e2⟩:=m1s hr.w1 hr.w2 h.cok.m2 hb;rw[k1y];simp only[tfd,if_neg (show ¬(c.2.1.2.1=0) by have:=hr.w1;omega),u1i hr.w2 hr.w1.1,e1,e2,l0z n h.t1,obs];rfl
theorem n2w (n:Nat) {c:Conf} {s:Trs} (h:FoldOk c s) (i:Int) {x:Cel} (hx:CelW x):f0j (n+9) (c,s) 0 i x=some (if FitsP x c.2.1.1 i then (0,(c,(tput s.1 i x,s.2))) else (2,(c,s))):=by
 rw[r1a,o1b n _ _ (u0k h.t0) hx];simp only[obs,tfd];by_cases hf:FitsP x c.2.1.1 i
 ·rw[if_pos (And.intro h.t0 hf),if_pos hf];rfl
 ·have hn:¬(TierOk s.1 c.2.1.1∧FitsP x c.2.1.1 i):=fun k=>hf k.2
  rw[if_neg hn,if_neg hf];rfl
theorem n2v (n:Nat) {c:Conf} {s:Trs} (h:FoldOk c s) (i:Int) {x:Cel} (hx:CelW x):f0j (n+9) (c,s) 1 i x=some (if FitsP x c.2.1.2.1 i then (0,(c,(s.1,(tput s.2.1 i x,s.2.2)))) else (2,(c,s))):=by
 rw[q1y,o1b n _ _ (u0k h.t1) hx];simp only[obs,tfd];by_cases hf:FitsP x c.2.1.2.1 i
 ·rw[if_pos (And.intro h.t1 hf),if_pos hf];rfl
 ·have hn:¬(TierOk s.2.1 c.2.1.2.1∧FitsP x c.2.1.2.1 i):=fun k=>hf k.2
  rw[if_neg hn,if_neg hf];rfl
theorem n2u (n:Nat) {c:Conf} {s:Trs} (h:FoldOk c s) (i:Int) {x:Cel} (hx:CelW x):f0j (n+9) (c,s) 2 i x=some (if FitsP x c.2.1.2.2 i then (0,(c,(s.1,(s.2.1,tput s.2.2 i x)))) else (2,(c,s))):=by
 rw[q1x,o1b n _ _ (u0k h.t2) hx];simp only[obs,tfd];by_cases hf:FitsP x c.2.1.2.2 i
 ·rw[if_pos (And.intro h.t2 hf),if_pos hf];rfl
 ·have hn:¬(TierOk s.2.2 c.2.1.2.2∧FitsP x c.2.1.2.2 i):=fun k=>hf k.2
  rw[if_neg hn,if_neg hf];rfl
theorem v0a {a w i j:Int} (ha:1≤a) (hw:1≤w) (h0:0≤i) (hij:i≤j) (hj:h0u a j) :
  IntKind.wrap .i64 (Int.tdiv (IntKind.wrap .i64 (i*a)) w)=i*a / w∧h0u w (i*a / w):=by
 have hm:=hj.mul ha;have h1:0≤i*a:=Int.mul_nonneg h0 (by omega);have h2:i*a≤j*a:=Int.mul_le_mul_of_nonneg_right hij (by omega);have h3:0≤i*a / w:=Int.ediv_nonneg h1 (by omega);have h4:i*a / w≤i*a:=Int.ediv_le_self _ h1;rw[w64 (x:=i*a) (by omega) (by omega),m0c h1,w64 (by omega) (by omega)];exact ⟨rfl,n1e hw ⟨h1,by omega⟩⟩
theorem k2g (n:Nat) {c:Conf} {s:Trs} (h:FoldOk c s) {i j:Int} (h0:0≤i) (hij:i≤j) (hj:h0u c.2.1.1 j) :
  (tif (decide (IntKind.wrap .i64 (Int.tdiv (IntKind.wrap .i64 (i*c.2.1.1)) c.2.1.2.2)=IntKind.wrap .i64 (Int.tdiv (IntKind.wrap .i64 (j*c.2.1.1)) c.2.1.2.2))) (some (c,s))
   (a0a (g0s (n+19) (c,s) (2:Int) (IntKind.wrap .i64 (Int.tdiv (IntKind.wrap .i64 (i*c.2.1.1)) c.2.1.2.2))) fun r0 =>
    tif (decide (r0.2.1=(0:Int))) (tif (decide ((0:Int)<r0.1.1)) (a0a (f0j (n+19) r0.2.2 (2:Int) (IntKind.wrap .i64 (Int.tdiv (IntKind.wrap .i64 (i*c.2.1.1)) c.2.1.2.2)) r0.1) fun r1=>some r1.2) (some r0.2.2)) (some r0.2.2)))=some (c,up2 c s i j):=by
 have hr:=h.cok.rng;have hjj:0≤j:=hj.1;obtain ⟨e1,b1⟩:=v0a hr.w0.1 hr.w2.1 h0 hij hj;obtain ⟨e2,_⟩:=v0a hr.w0.1 hr.w2.1 hjj (Int.le_refl j) hj;rw[e1,e2,h2s n h b1];simp only[obs,tfd];unfold up2;by_cases c1:i*c.2.1.1 / c.2.1.2.2=j*c.2.1.1 / c.2.1.2.2
 ·rw[if_pos c1,if_pos c1]
 rw[if_neg c1,if_neg c1];generalize i*c.2.1.1 / c.2.1.2.2=a at *
 have hok:b0h (mk2 c s a).1:=p0g _ _ _;by_cases c2:(mk2 c s a).2=0
 ·rw[if_pos c2];by_cases c3:0<(mk2 c s a).1.1
  ·rw[if_pos c3,n2u (n+10) h a (CelW.of hok)];by_cases c4:FitsP (mk2 c s a).1 c.2.1.2.2 a
   ·rw[if_pos c4,if_pos (And.intro c2 c4)];rfl
   ·rw[if_neg c4,if_neg (fun k=>c4 k.2)];rfl
  ·rw[if_neg c3,if_neg (fun k=>c3 (by have:=k.2.n.n1;omega))]
 ·rw[if_neg c2,if_neg (fun k=>c2 k.1)]
theorem fold_up (n:Nat) {c:Conf} {s:Trs} (h:FoldOk c s) {i j:Int} (h0:0≤i) (hij:i≤j) (hj:h0u c.2.1.1 j):q1w (n+20) (c,s) i j=some (c,upw c s i j):=by
 have hr:=h.cok.rng;have hjj:0≤j:=hj.1;obtain ⟨e1,b1⟩:=v0a hr.w0.1 hr.w1.1 h0 hij hj;obtain ⟨e2,_⟩:=v0a hr.w0.1 hr.w1.1 hjj (Int.le_refl j) hj;have z1:¬(c.2.1.2.1=0):=by have:=hr.w1;omega
 have z2:¬(c.2.1.2.2=0):=by have:=hr.w2;omega
 rw[i2g];simp only[e1,e2,decide_eq_false z1,decide_eq_false z2,tff,h2t n h b1,obs,k2g n h h0 hij hj];unfold upw;simp only[tfd];by_cases c1:i*c.2.1.1 / c.2.1.2.1=j*c.2.1.1 / c.2.1.2.1
 ·have:up1 c s i j=s:=by unfold up1;rw[if_pos c1]
  rw[if_pos c1,this]
 rw[if_neg c1];have e3:up1 c s i j=if (mk1 c s (i*c.2.1.1 / c.2.1.2.1)).2=0∧FitsP (mk1 c s (i*c.2.1.1 / c.2.1.2.1)).1 c.2.1.2.1 (i*c.2.1.1 / c.2.1.2.1) then (s.1,(tput s.2.1 (i*c.2.1.1 / c.2.1.2.1) (mk1 c s (i*c.2.1.1 / c.2.1.2.1)).1,s.2.2)) else s:=by
  unfold up1;rw[if_neg c1]
 have hk:=s1v h i j;rw[e3] at hk ⊢;generalize i*c.2.1.1 / c.2.1.2.1=a at *
 have hok:b0h (mk1 c s a).1:=p0g _ _ _;by_cases c2:(mk1 c s a).2=0
 ·rw[if_pos c2];by_cases c3:0<(mk1 c s a).1.1
  ·rw[if_pos c3,n2v (n+10) h a (CelW.of hok)];by_cases c4:FitsP (mk1 c s a).1 c.2.1.2.1 a
   ·rw[if_pos (And.intro c2 c4)] at hk ⊢;rw[if_pos c4];have:=k2g n hk h0 hij hj;simp only[obs,if_neg z2];simp only[tfd] at this ⊢;exact this
   ·have hn1:¬((mk1 c s a).2=0∧FitsP (mk1 c s a).1 c.2.1.2.1 a):=fun k=>c4 k.2
    rw[if_neg hn1] at hk ⊢;rw[if_neg c4];have:=k2g n hk h0 hij hj;simp only[obs,if_neg z2];simp only[tfd] at this ⊢;exact this
  ·rw[if_neg c3,if_neg (fun k=>c3 (by have:=k.2.n.n1;omega))]
 ·rw[if_neg c2,if_neg (fun k=>c2 k.1)]
noncomputable def l0a (c:Conf) (s:Trs) (was:Slo) (j:Int):Trs×Int :=
 if FoldOk c s then
  (if was=s0 then (s,0)
   else if FitsP was.2 c.2.1.1 was.1 then
    (if was.1=j then (s,0) else if was.1≤j∧h0u c.2.1.1 j then (upw c (tput s.1 was.1 was.2,s.2) was.1 j,0) else (([],([],[])),1))
   else (([],([],[])),2))
 else (([],([],[])),2)
theorem r0x {c:Conf} {s:Trs} (h:FoldOk c s) {i:Int} {x:Cel} (hf:FitsP x c.2.1.1 i):FoldOk c (tput s.1 i x,s.2) :=
 ⟨h.cok,by simpa [tput] using h.n0,h.n1,h.n2,f1y h.t0 hf,h.t1,h.t2⟩
theorem h2v (n:Nat) (c:Conf) {s:Trs} (hw:TrsW s) {was:Slo} (hx:SloW was) (j:Int):b1y (n+21) c s was j=some (l0a c s was j):=by
 rw[q1t,z0s (n+12) c hw];unfold l0a;by_cases h:FoldOk c s
 case neg=>rw[if_neg h,if_neg h];rfl
 have hr:=h.cok.rng;rw[if_pos h,if_pos h];simp only[obs,j0k,decide_true,Bool.not_true,tff,k2r,tfn,tfd,if_true,x0y (n+14) hx.c];by_cases c1:was=s0
 ·rw[if_pos c1,if_pos c1,if_pos c1]
 rw[if_neg c1,if_neg c1,if_neg c1];by_cases c2:FitsP was.2 c.2.1.1 was.1
 case neg=>rw[if_neg c2,if_neg c2]
 rw[if_pos c2,if_pos c2];by_cases c3:was.1=j
 ·rw[if_pos c3,if_pos c3]
 rw[if_neg c3,if_neg c3];by_cases c4:j<was.1
 ·rw[if_pos c4,if_neg (fun q=>by omega)]
 rw[if_neg c4,begins_0 (n+19) c s hr.w0.1 j];simp only[obs,tfn,tfd];by_cases hb:h0u c.2.1.1 j
 ·have hi:=c2.i0;rw[if_pos hb,if_pos ⟨by omega,hb⟩,n2w (n+11) h was.1 hx.c,if_pos c2];simp only[obs,if_true,fold_up n (r0x h c2) hi.1 (show was.1≤j by omega) hb]
 ·rw[if_neg hb,if_neg (fun q=>hb q.2)]
theorem FoldOk.lens {c:Conf} {s:Trs} (h:FoldOk c s):s.1.length≤1000000∧s.2.1.length≤1000000∧s.2.2.length≤1000000:=by
 have:=h.t0.l1;have:=h.t1.l1;have:=h.t2.l1;omega
abbrev Ser:=List Lab×(Int×(Rw×(Trs×Slo)))
structure SerW (s:Ser):Prop where
 last:I64 s.2.1
 raw:RawW s.2.2.1
 trs:TrsW s.2.2.2.1
 opn:SloW s.2.2.2.2
def a0s (l:List Slo) (i:Int):Prop:=∀s∈l,0<s.2.1→s.1<i
noncomputable instance (l i):Decidable (a0s l i):=Classical.propDecidable _
structure Fresh (s:Ser):Prop where
 raw:s.2.2.1.2.2=[]
 opn:s.2.2.2.2=s0
 b0:a0s s.2.2.2.1.1 0
 b1:a0s s.2.2.2.1.2.1 0
 b2:a0s s.2.2.2.1.2.2 0
structure EndsP (c:Conf) (s:Ser):Prop where
 last:∃e,s.2.2.1.2.2.getLast? = some e∧e.1=s.2.1
 ol:s.2.2.2.2.2.2.2.1.1=s.2.1
 fit:FitsP s.2.2.2.2.2 c.2.1.1 s.2.2.2.2.1
 b0:a0s s.2.2.2.1.1 (s.2.1 / c.2.1.1)
 b1:a0s s.2.2.2.1.2.1 (s.2.1 / c.2.1.2.1)
 b2:a0s s.2.2.2.1.2.2 (s.2.1 / c.2.1.2.2)
structure SerOk (c:Conf) (s:Ser):Prop where
 fold:FoldOk c s.2.2.2.1
 lab:LabOk s.1
 raw:RawOk s.2.2.1 c.1
 st:(s.2.1 = -1∧Fresh s)∨(s.2.1 ≠ -1∧EndsP c s)
noncomputable instance (s):Decidable (Fresh s):=Classical.propDecidable _
noncomputable instance (c s):Decidable (EndsP c s):=Classical.propDecidable _
noncomputable instance (c s):Decidable (SerOk c s):=Classical.propDecidable _
theorem r1o (n:Nat) {del:a0c×Unit→Option Bool} {p:Slo→Bool} (hd:∀x,del (x,())=some (p x)) (l:List Slo) (hL:l.length≤1000000):g0m (n+2) l del=some (l.any p):=by
 rw[q0y,k0v];rcases n2k hd n l hL l [] a0b 0 l.length rfl rfl rfl (by unfold a0b;omega) with ⟨h1,h2⟩ | ⟨A,x,B,h1,h2,h3,h4⟩
 ·rw[h1];have:l.any p=false:=by rw[List.any_eq_false];intro x hx;simp[h2 x hx]
  rw[this];rfl
 ·rw[h4];have:l.any p=true:=List.any_eq_true.2 ⟨x,by rw[h1];simp,h3⟩;simp only[obs,m0p,this,Int.zero_add];rw[decide_eq_true (by omega)]
theorem d0c (n:Nat) (l:List Slo) (i:Int) (hL:l.length≤1000000):d0n (n+3) l i=some (!decide (a0s l i)):=by
 rw[d1t,r1o (p:=fun s=>decide (0<s.2.1∧i≤s.1)) n (fun x=>by
  show m0l (n+1+1) x i=_;rw[y0q]
  by_cases h1:0<x.2.1<;>by_cases h2:i≤x.1<;>simp[h1,h2]) l hL]
 simp only[obs];refine congrArg some ?_;by_cases h:a0s l i
 ·rw[decide_eq_true h];rw[List.any_eq_false.2]
  ·rfl
  ·intro x hx k;have:=of_decide_eq_true k;have:=h x hx this.1;omega
 ·rw[decide_eq_false h];have:∃x∈l,0<x.2.1∧i≤x.1:=Classical.byContradiction fun k=>h fun x hx hc=>by
   rcases Int.lt_or_le x.1 i with q | q
   ·exact q
   ·exact absurd ⟨x,hx,hc,q⟩ k
  obtain ⟨x,hx,hq⟩:=this;rw[List.any_eq_true.2 ⟨x,hx,decide_eq_true hq⟩];rfl
theorem h2g (n:Nat) (c:Conf) {s:Ser} (hf:FoldOk c s.2.2.2.1):g1p (n+4) (c,s)=some (decide (Fresh s)):=by
 obtain ⟨l0,l1,l2⟩:=hf.lens;rw[t1q,k2r,d0c n _ _ l0,d0c n _ _ l1,d0c n _ _ l2];simp only[obs,Bool.not_not,tfd];by_cases h1:(s.2.2.1.2.2.length:Int)=0
 case neg=>rw[if_neg h1,decide_eq_false (fun k:Fresh s=>h1 (by rw[k.raw];rfl))]
 rw[if_pos h1];by_cases h2:s.2.2.2.2=s0
 case neg=>rw[if_neg h2,decide_eq_false (fun k:Fresh s=>h2 k.opn)]
 rw[if_pos h2];by_cases h3:a0s s.2.2.2.1.1 0
 case neg=>rw[if_neg h3,decide_eq_false (fun k:Fresh s=>h3 k.b0)]
 rw[if_pos h3];by_cases h4:a0s s.2.2.2.1.2.1 0
 case neg=>rw[if_neg h4,decide_eq_false (fun k:Fresh s=>h4 k.b1)]
 rw[if_pos h4];refine congrArg some (decide_eq_decide.2 ⟨fun k=>⟨List.length_eq_zero_iff.1 (by omega),h2,h3,h4,k⟩,fun k=>k.b2⟩)
theorem m2u {c:Conf} {s:Ser} (hr:RawOk s.2.2.1 c.1) {e:Ev} (he:s.2.2.1.2.2.getLast? = some e):EvOk e:=hr.f.ok e (List.mem_of_getLast? he)
theorem n2a (n:Nat) (c:Conf) {s:Ser} (hf:FoldOk c s.2.2.2.1) (hr:RawOk s.2.2.1 c.1) (hw:SerW s):e1v (n+7) (c,s)=some (decide (EndsP c s)):=by
 obtain ⟨l0,l1,l2⟩:=hf.lens;have hg:=hf.cok.rng;have hlen:=hr.len;have hm1:=hr.m1;rw[y1b,b2v (n+5) s.2.2.1 (by omega)];cases hl:s.2.2.1.2.2.getLast? with
 | none =>
  simp only[obs];rw[show (decide ((3:Int)=0))=false from rfl,tff,decide_eq_false];intro k;obtain ⟨e,he,_⟩:=k.last;rw[hl] at he;cases he
 | some e =>
  have heo:=m2u hr hl;simp only[obs,decide_true,tft,tfd,if_true];by_cases h1:e.1=s.2.1
  case neg =>
   rw[if_neg h1,decide_eq_false];intro k;obtain ⟨e',he,hq⟩:=k.last;rw[hl] at he;injection he with he;subst he;exact h1 hq
  rw[if_pos h1];by_cases h2:s.2.2.2.2.2.2.2.1.1=s.2.1
  case neg=>rw[if_neg h2,decide_eq_false (fun k:EndsP c s=>h2 k.ol)]
  have q0:=b2y heo hg.w0.1;have q1:=b2y heo hg.w1.1;have q2:=b2y heo hg.w2.1;rw[h1] at q0 q1 q2;rw[if_pos h2,x0y n hw.opn.c];simp only[obs,tfd,q0,q1,q2,d0c (n+3) _ _ l0,d0c (n+3) _ _ l1,d0c (n+3) _ _ l2,Bool.not_not,if_neg (show ¬(c.2.1.1=0) by have:=hg.w0;omega),if_neg (show ¬(c.2.1.2.1=0) by have:=hg.w1;omega),if_neg (show ¬(c.2.1.2.2=0) by have:=hg.w2;omega)];by_cases h3:FitsP s.2.2.2.2.2 c.2.1.1 s.2.2.2.2.1
  case neg=>rw[if_neg h3,decide_eq_false (fun k:EndsP c s=>h3 k.fit)]
  rw[if_pos h3];by_cases h4:a0s s.2.2.2.1.1 (s.2.1 / c.2.1.1)
  case neg=>rw[if_neg h4,decide_eq_false (fun k:EndsP c s=>h4 k.b0)]
  rw[if_pos h4];by_cases h5:a0s s.2.2.2.1.2.1 (s.2.1 / c.2.1.2.1)
  case neg=>rw[if_neg h5,decide_eq_false (fun k:EndsP c s=>h5 k.b1)]
  rw[if_pos h5];refine congrArg some (decide_eq_decide.2 ⟨fun k=>⟨⟨e,hl,h1⟩,h2,h3,h4,h5,k⟩,fun k=>k.b2⟩)
theorem z08 (p:Prop) [Decidable p]:((if p then (0:Int) else 8)=0)↔p:=by by_cases h:p<;>simp[h]
theorem f0p (n:Nat) (c:Conf) {s:Ser} (hw:SerW s):m0k (n+10) c s=some (if SerOk c s then (some (c,s),0) else (none,2)):=by
 rw[k1e,h2w n c hw.trs,g0y (n+3),u1c (n+4) _ _ hw.raw];simp only[obs,tfn,tfd];by_cases h1:FoldOk c s.2.2.2.1
 case neg=>rw[if_neg (mt (z02 _).1 h1),if_neg (fun k:SerOk c s=>h1 k.fold)]
 by_cases h2:LabOk s.1
 case neg=>rw[if_pos ((z02 _).2 h1),if_neg (mt (z08 _).1 h2),if_neg (fun k:SerOk c s=>h2 k.lab)]
 by_cases h3:RawOk s.2.2.1 c.1
 case neg=>rw[if_pos ((z02 _).2 h1),if_pos ((z08 _).2 h2),if_neg (mt (z02 _).1 h3),if_neg (fun k:SerOk c s=>h3 k.raw)]
 rw[if_pos ((z02 _).2 h1),if_pos ((z08 _).2 h2),if_pos ((z02 _).2 h3),h2g (n+5) c h1,n2a (n+2) c h1 h3 hw];simp only[obs,tfd];by_cases h4:s.2.1 = -1
 ·rw[if_pos h4];by_cases h5:Fresh s
  ·rw[if_pos h5,if_pos (⟨h1,h2,h3,.inl ⟨h4,h5⟩⟩:SerOk c s)]
  ·rw[if_neg h5,if_pos h4,if_neg (fun k:SerOk c s=>by
    rcases k.st with q | q
    ·exact h5 q.2
    ·exact q.1 h4)]
 ·rw[if_neg h4,if_neg h4];by_cases h5:EndsP c s
  ·rw[if_pos h5,if_pos (⟨h1,h2,h3,.inr ⟨h4,h5⟩⟩:SerOk c s)]
  ·rw[if_neg h5,if_neg (fun k:SerOk c s=>by
    rcases k.st with q | q
    ·exact h4 q.1
    ·exact h5 q.2)]
theorem t0o {l:List Slo} {w:Int} (h:TierOk l w) (i:Int):a0s l i↔∀s∈tall l,s.1<i:=by
 constructor
 ·intro k s hs;have:=(tall_N h hs).n1;exact k s (o0d.1 hs).1 (by omega)
 ·intro k s hs hc;exact k s (o0d.2 ⟨hs,fun e=>by rw[e] at hc;simp[s0,z0] at hc⟩)
theorem i1a {l:List Slo} {w:Int} (h:TierOk l w):a0s l 0↔tall l=[]:=by
 rw[t0o h];constructor
 ·intro k;by_cases e:tall l=[]
  ·exact e
  ·obtain ⟨s,hs⟩:=List.exists_mem_of_ne_nil _ e;have:=(i0b h hs).1.i0;have:=k s hs;omega
 ·intro e s hs;rw[e] at hs;cases hs
theorem nn {α:Type} {a b:α} (h:a=b):¬(a≠b):=fun k=>k h
def ser0:Ser:=([],(0,(r0w,(([],([],[])),s0))))
def a1k (s:Ser) (i:Int):Prop:=s.2.2.2.2≠s0∧s.2.2.2.2.1≠i
noncomputable instance (s i):Decidable (a1k s i):=Classical.propDecidable _
noncomputable def turned (c:Conf) (s:Ser) (i:Int):(Trs×Slo)×Int :=
 if a1k s i then (if (l0a c s.2.2.2.1 s.2.2.2.2 i).2=0 then (((l0a c s.2.2.2.1 s.2.2.2.2 i).1,s0),0) else ((s.2.2.2.1,s.2.2.2.2),(l0a c s.2.2.2.1 s.2.2.2.2 i).2)) else ((s.2.2.2.1,s.2.2.2.2),0)
noncomputable def putE (c:Conf) (s:Ser) (e:Ev):Ser×Int :=
 if SerOk c s∧EvOk e then
  (if e.1≤s.2.1 then (ser0,9)
   else if (turned c s (e.1 / c.2.1.1)).2≠0 then (ser0,(turned c s (e.1 / c.2.1.1)).2)
   else if (i0h s.2.2.1 c.1 e).2≠0 then (ser0,(i0h s.2.2.1 c.1 e).2)
   else if (mrgE (turned c s (e.1 / c.2.1.1)).1.2.2 (b0w e)).2≠0 then (ser0,(mrgE (turned c s (e.1 / c.2.1.1)).1.2.2 (b0w e)).2)
   else ((s.1,(e.1,((i0h s.2.2.1 c.1 e).1,((turned c s (e.1 / c.2.1.1)).1.1,(e.1 / c.2.1.1,(mrgE (turned c s (e.1 / c.2.1.1)).1.2.2 (b0w e)).1))))),0))
 else (ser0,2)
theorem z0b {c:Conf} {s:Ser} (h:SerOk c s):s.2.2.2.2.2.1=0↔s.2.2.2.2=s0:=by
 constructor
 ·intro k;rcases h.st with q | q
  ·exact q.2.opn
  ·have:=q.2.fit.n.n1;omega
 ·intro k;rw[k];rfl
theorem turned_w {c:Conf} {s:Ser} (hw:SerW s) (i:Int):SloW (turned c s i).1.2:=by
 unfold turned;split
 ·split
  ·exact b1a
  ·exact hw.opn
 ·exact hw.opn
theorem m2y (n:Nat) (c:Conf) {s:Ser} (h:SerOk c s) (hw:SerW s) (i:Int):o1o (n+22) (c,s) i=some ((turned c s i).2,(c,(s.1,(s.2.1,(s.2.2.1,(turned c s i).1))))):=by
 rw[y1a];simp only[tfd,h2v n c hw.trs hw.opn i,obs];unfold turned;by_cases h1:s.2.2.2.2.1=i
 ·rw[if_pos h1,if_neg (fun k:a1k s i=>k.2 h1)]
 rw[if_neg h1];by_cases h2:s.2.2.2.2.2.1=0
 ·rw[if_pos h2,if_neg (fun k:a1k s i=>k.1 ((z0b h).1 h2))]
 have ht:a1k s i:=⟨fun k=>h2 ((z0b h).2 k),h1⟩;rw[if_neg h2,if_pos ht];by_cases h3:(l0a c s.2.2.2.1 s.2.2.2.2 i).2=0
 ·rw[if_pos h3,if_pos h3,h3];rfl
 ·rw[if_neg h3,if_neg h3]
theorem f2r (n:Nat) (c:Conf) {s:Ser} (hw:SerW s) {e:Ev} (he:EvW e):b1g (n+23) c s e=some (putE c s e):=by
 rw[p1a,f0p (n+12) c hw,e0s _ he];unfold putE;by_cases h1:SerOk c s
 case neg=>rw[if_neg h1,if_neg (fun k:SerOk c s∧EvOk e=>h1 k.1)];rfl
 rw[if_pos h1];have hg:=h1.fold.cok.rng;simp only[obs,j0k,decide_true,Bool.not_true,tff,tfn,tfd];by_cases h2:EvOk e
 case neg=>rw[if_neg (mt (z02 _).1 h2),if_neg (fun k:SerOk c s∧EvOk e=>h2 k.2)];rfl
 rw[if_pos ((z02 _).2 h2),if_pos (And.intro h1 h2)];by_cases h3:e.1≤s.2.1
 ·rw[if_pos h3,if_pos h3];rfl
 rw[if_neg h3,if_neg h3,if_neg (show ¬(c.2.1.1=0) by have:=hg.w0;omega),b2y h2 hg.w0.1,m2y n c h1 hw];generalize ht:turned c s (e.1 / c.2.1.1)=t;have htw:=turned_w (c:=c) hw (e.1 / c.2.1.1);rw[ht] at htw;simp only[obs];by_cases h4:t.2=0
 case neg=>rw[if_neg h4,if_pos h4];rfl
 rw[if_pos h4,if_neg (nn h4),f2h,raw_put (n+15) c.1 hw.raw he,cell_add (n+14) htw.c he,if_pos h2];simp only[obs,tfn,tfd];by_cases h5:(i0h s.2.2.1 c.1 e).2=0
 case neg =>
  rw[if_neg h5,if_pos h5];simp only[obs];rw[if_neg h5];rfl
 rw[if_pos h5,if_neg (nn h5)];simp only[obs];by_cases h6:(mrgE t.1.2.2 (b0w e)).2=0
 ·rw[if_pos h6,if_neg (nn h6)];simp only[if_true]
 ·rw[if_neg h6,if_pos h6];rfl
end Go.Proofs.YtojobamheigpbaaGreatDoor

namespace Go.Plim
set_option linter.unusedVariables false
def below (w:Int) (l:List Ev) (t:Int):List Ev:=l.filter fun e=>decide (e.1 / w<t / w)
theorem n1i {w:Int} {l:List Ev} (h:Foll l) (t:Int):Foll (below w l t):=h.sub List.filter_sublist
theorem a1g {w:Int} {l:List Ev} {t:Int} (h:∀e∈l,e.1 / w<t / w):below w l t=l:=by
 unfold below;exact List.filter_eq_self.2 fun e he=>by simpa using h e he
theorem n0k {w:Int} {l:List Ev} {t u:Int} (h:t / w=u / w):below w l t=below w l u:=by unfold below;rw[h]
theorem l0s {w:Int} {l:List Ev} (e:Ev):below w (l++[e]) e.1=below w l e.1:=by
 unfold below;rw[List.filter_append];simp
structure EndsAt (l:List Ev) (t:Int):Prop where
 foll:Foll l
 le:∀e∈l,e.1≤t
 last:∃e∈l,e.1=t
theorem EndsAt.wle {l:List Ev} {t:Int} (h:EndsAt l t) {w:Int} (hw:1≤w):∀e∈l,e.1 / w≤t / w:=fun e he=>Int.ediv_le_ediv (by omega) (h.le e he)
theorem i2l {l:List Ev} {t:Int} (h:EndsAt l t) {w:Int} (hw:1≤w):l=below w l t++win w l (t / w):=by
 have key:∀(m:List Ev),(∀e∈m,e.1 / w≤t / w)→m.Pairwise (fun a b=>a.1 / w≤b.1 / w)→m=below w m t++win w m (t / w):=by
  intro m;induction m with
  | nil=>intro _ _;rfl
  | cons x m ih =>
   intro h1 h2;rw[List.pairwise_cons] at h2;have ih':=ih (fun e he=>h1 e (by simp[he])) h2.2;have hx:=h1 x (by simp);unfold below win at *
   by_cases c:x.1 / w<t / w
   ·rw[List.filter_cons_of_pos (by simpa using c),List.filter_cons_of_neg (by simp;omega),List.cons_append,←ih']
   ·have e0:m.filter (fun e=>decide (e.1 / w<t / w))=[]:=by
     rw[List.filter_eq_nil_iff];intro y hy;have:=h2.1 y hy;simp;omega
    rw[List.filter_cons_of_neg (by simpa using c),List.filter_cons_of_pos (by simp;omega),e0,List.nil_append];rw[e0,List.nil_append] at ih';rw[←ih']
 exact key l (h.wle hw) (n2r hw h.foll)
theorem j2s (t:List Slo) (i:Int) (a b:Cel):tput (tput t i a) i b=tput t i b:=by
 unfold tput;rw[List.length_set,List.set_set]
theorem o1g {t:List Slo} {w a:Int} {l:List Ev} (h:TierInv t w l):∀(n:Nat) (B:List Ev),B.length=n+1→Foll (l++B)→(∀e∈B,e.1 / w=a) →
  FitsP (cellOf (win w (l++B) a)) w a∧TierInv (tput t a (cellOf (win w (l++B) a))) w (l++B):=by
 intro n;induction n with
 | zero =>
  intro B hB hf ha
  match B,hB with
  | [e],_ =>
   have he:=ha e (by simp);have:=g1d h hf;rw[he] at this;rw[win_snoc,if_pos he];exact this
 | succ n ih =>
  intro B hB hf ha;rcases List.eq_nil_or_concat B with rfl | ⟨B',e,rfl⟩
  ·cases hB
  rw[List.concat_eq_append] at *
  have he:=ha e (by simp);have hf':Foll (l++B'++[e]):=by rw[List.append_assoc];exact hf
  obtain ⟨h1,h2⟩:=ih B' (by simp at hB;exact hB) (b0b.1 hf').1 (fun x hx=>ha x (by simp[hx]));have:=g1d h2 hf';rw[he,j2s,List.append_assoc] at this;rw[←List.append_assoc,win_snoc,if_pos he];rw[List.append_assoc];exact this
theorem i0a {s:List Slo} {w:Int} {l:List Ev} {t:Int} (he:EndsAt l t) (h:TierInv s w (below w l t)):FitsP (cellOf (win w l (t / w))) w (t / w)∧TierInv (tput s (t / w) (cellOf (win w l (t / w)))) w l:=by
 have hw:=h.ok.w0;have hs:=i2l he hw;obtain ⟨e,hel,het⟩:=he.last;have hne:win w l (t / w)≠[]:=fun k=>by
  have:e∈win w l (t / w):=b1p.2 ⟨hel,by rw[het]⟩;rw[k] at this;cases this
 have hlen:(win w l (t / w)).length=((win w l (t / w)).length-1)+1:=by have:=List.length_pos_iff.2 hne;omega
 have:=o1g h _ (win w l (t / w)) hlen (by rw[←hs];exact he.foll) (fun x hx=>(b1p.1 hx).2);rw[←hs] at this;exact this
theorem edvm {t a b:Int} (ha:1≤a) (hb:1≤b) (hm:b % a=0):t / a*a / b=t / b∧t / a / (b / a)=t / b:=by
 have e:a*(b / a)=b:=by have:=Int.mul_ediv_add_emod b a;omega
 have h1:t / a / (b / a)=t / b:=by rw[Int.ediv_ediv_of_nonneg (by omega),e]
 refine ⟨?_,h1⟩;rw[←h1]
 conv=>lhs;rw[←e,Int.mul_comm (t / a) a]
 exact Int.mul_ediv_mul_of_pos _ _ (by omega)
theorem a1m {l:List Ev} {a b i:Int} (ha:1≤a) (hb:1≤b) (hm:b % a=0):rng a l (i*(b / a)) ((i+1)*(b / a))=win b l i:=by
 unfold rng win;apply List.filter_congr;intro e _;have h1:=(edvm (t:=e.1) ha hb hm).2;have hq:1≤b / a:=by
  have e:a*(b / a)=b:=by have:=Int.mul_ediv_add_emod b a;omega
  rcases Int.lt_or_le 0 (b / a) with k | k
  ·omega
  ·have:a*(b / a)≤0:=Int.mul_nonpos_of_nonneg_of_nonpos (by omega) k;omega
 refine decide_eq_decide.2 ?_;rw[←h1];generalize e.1 / a=x at *
 generalize b / a=q at *
 constructor
 ·rintro ⟨h2,h3⟩;have:=Int.le_ediv_of_mul_le (show 0<q by omega) h2;have:=Int.ediv_lt_of_lt_mul (show 0<q by omega) h3;omega
 ·rintro rfl;exact ⟨Int.ediv_mul_le _ (by omega),Int.lt_ediv_add_one_mul_self x (by omega)⟩
end Go.Plim
namespace Go.Proofs.YtojobamheigpbaaGreatDoor
open Go.Flat Go.Plim
structure FInv (c:Conf) (s:Trs) (l:List Ev) (t:Int):Prop where
 ok:FoldOk c s
 i0:TierInv s.1 c.2.1.1 (below c.2.1.1 l t)
 i1:TierInv s.2.1 c.2.1.2.1 (below c.2.1.2.1 l t)
 i2:TierInv s.2.2 c.2.1.2.2 (below c.2.1.2.2 l t)
theorem OkC.m02 {c:Conf} (h:OkC c):c.2.1.2.2 % c.2.1.1=0:=by
 have h1:=Int.dvd_of_emod_eq_zero h.m1;have h2:=Int.dvd_of_emod_eq_zero h.m2;exact Int.emod_eq_zero_of_dvd (Int.dvd_trans h1 h2)
theorem same_win {c:Conf} (h:OkC c) {t u:Int} (e:t / c.2.1.1=u / c.2.1.1):t / c.2.1.2.1=u / c.2.1.2.1∧t / c.2.1.2.2=u / c.2.1.2.2:=by
 have hr:=h.rng;rw[←(edvm (t:=t) hr.w0.1 hr.w1.1 h.m1).1,←(edvm (t:=u) hr.w0.1 hr.w1.1 h.m1).1,←(edvm (t:=t) hr.w0.1 hr.w2.1 h.m02).1,←(edvm (t:=u) hr.w0.1 hr.w2.1 h.m02).1,e];exact ⟨rfl,rfl⟩
theorem k2v {c:Conf} (h:OkC c) {t u:Int} (e:t / c.2.1.2.1=u / c.2.1.2.1):t / c.2.1.2.2=u / c.2.1.2.2:=by
 have hr:=h.rng;rw[←(edvm (t:=t) hr.w1.1 hr.w2.1 h.m2).1,←(edvm (t:=u) hr.w1.1 hr.w2.1 h.m2).1,e]
theorem o2c {c:Conf} {s:Trs} {l:List Ev} {t:Int} (h:FInv c s l t) {e:Ev} (hw:t / c.2.1.1=e.1 / c.2.1.1):FInv c s (l++[e]) e.1:=by
 obtain ⟨h1,h2⟩:=same_win h.ok.cok hw;refine ⟨h.ok,?_,?_,?_⟩
 ·rw[l0s,←n0k hw];exact h.i0
 ·rw[l0s,←n0k h1];exact h.i1
 ·rw[l0s,←n0k h2];exact h.i2
theorem v1u {c:Conf} {s:Trs} {l:List Ev} {e:Ev} (h:FInv c s l e.1):FInv c s (l++[e]) e.1:=by
 refine ⟨h.ok,?_,?_,?_⟩
 ·rw[l0s];exact h.i0
 ·rw[l0s];exact h.i1
 ·rw[l0s];exact h.i2
theorem s1m {w:Int} {l:List Ev} {t f n:Int} (he:EndsAt l t) (hw:1≤w) {i:Int} (h1:t / w<i+f) (h2:f≤n):∀e∈l,e.1 / w<i+n:=fun e hel=>by
 have:=he.wle hw e hel;omega
theorem i2c {c:Conf} {s:Trs} {l:List Ev} {t:Int} (h:FInv c s l t) (he:EndsAt l t) {u:Int} (hu:t<u) (hw:t / c.2.1.1≠u / c.2.1.1) :
  FitsP (cellOf (win c.2.1.1 l (t / c.2.1.1))) c.2.1.1 (t / c.2.1.1) ∧
  FInv c (upw c (tput s.1 (t / c.2.1.1) (cellOf (win c.2.1.1 l (t / c.2.1.1))),s.2) (t / c.2.1.1) (u / c.2.1.1)) l u:=by
 have hok:=h.ok;have hc:=hok.cok;have hr:=hc.rng;obtain ⟨hf0,k0⟩:=i0a he h.i0;have hlt:t / c.2.1.1<u / c.2.1.1:=by
  have:t / c.2.1.1≤u / c.2.1.1:=Int.ediv_le_ediv (by have:=hr.w0;omega) (by omega);omega
 refine ⟨hf0,?_⟩;have s0ok:FoldOk c (tput s.1 (t / c.2.1.1) (cellOf (win c.2.1.1 l (t / c.2.1.1))),s.2) :=
  ⟨hc,by simpa [tput] using hok.n0,hok.n1,hok.n2,f1y hok.t0 hf0,hok.t1,hok.t2⟩
 generalize hs0:tput s.1 (t / c.2.1.1) (cellOf (win c.2.1.1 l (t / c.2.1.1)))=a0 at *
 have b0:below c.2.1.1 l u=l:=a1g fun e hel=>by have:=he.wle hr.w0.1 e hel;omega
 have q1:=edvm (t:=t) hr.w0.1 hr.w1.1 hc.m1;have q1u:=edvm (t:=u) hr.w0.1 hr.w1.1 hc.m1;have q2:=edvm (t:=t) hr.w0.1 hr.w2.1 hc.m02;have q2u:=edvm (t:=u) hr.w0.1 hr.w2.1 hc.m02;have q12:=edvm (t:=t) hr.w1.1 hr.w2.1 hc.m2;have ht0:0≤t:=by obtain ⟨e,hel,het⟩:=he.last;have:=(he.foll.ok e hel).t0;omega
 have r1:up1 c (a0,s.2) (t / c.2.1.1) (u / c.2.1.1)=(a0,(if t / c.2.1.2.1=u / c.2.1.2.1 then s.2.1 else tput s.2.1 (t / c.2.1.2.1) (cellOf (win c.2.1.2.1 l (t / c.2.1.2.1))),s.2.2)) ∧
   (t / c.2.1.2.1≠u / c.2.1.2.1→TierInv (tput s.2.1 (t / c.2.1.2.1) (cellOf (win c.2.1.2.1 l (t / c.2.1.2.1)))) c.2.1.2.1 l):=by
  unfold up1;rw[q1.1,q1u.1];by_cases k:t / c.2.1.2.1=u / c.2.1.2.1
  ·rw[if_pos k,if_pos k];exact ⟨rfl,fun n=>absurd k n⟩
  ·obtain ⟨hf1,k1⟩:=i0a he h.i1;have hm:mk1 c (a0,s.2) (t / c.2.1.2.1)=(cellOf (win c.2.1.2.1 l (t / c.2.1.2.1)),0):=by
    unfold mk1;have e1:0≤c.2.1.2.1 / c.2.1.1:=Int.ediv_nonneg (by have:=hr.w1;omega) (by have:=hr.w0;omega);have e0:0≤t / c.2.1.2.1:=Int.ediv_nonneg ht0 (by have:=hr.w1;omega);have hlen:((a0:List Slo).length:Int)=c.2.2.1.1:=s0ok.n0;have hub:t / c.2.1.1<t / c.2.1.2.1*(c.2.1.2.1 / c.2.1.1)+c.2.1.2.1 / c.2.1.1:=by
     rw[←q1.2];have hp:0<c.2.1.2.1 / c.2.1.1:=by
      rcases Int.lt_or_le 0 (c.2.1.2.1 / c.2.1.1) with z | z
      ·exact z
      ·exfalso;have e:c.2.1.1*(c.2.1.2.1 / c.2.1.1)=c.2.1.2.1:=by have:=Int.mul_ediv_add_emod c.2.1.2.1 c.2.1.1;have:=hc.m1;omega
       have:c.2.1.2.1 / c.2.1.1=0:=by omega
       rw[this,Int.mul_zero] at e;have:=hr.w1;omega
     have:=Int.lt_ediv_add_one_mul_self (t / c.2.1.1) hp;rw[Int.add_mul,Int.one_mul] at this;exact this
    have:=n0s k0 he.foll (i:=t / c.2.1.2.1*(c.2.1.2.1 / c.2.1.1)) (k:=(t / c.2.1.2.1+1)*(c.2.1.2.1 / c.2.1.1)) (Int.mul_nonneg e0 e1)
     (Int.mul_le_mul_of_nonneg_right (by omega) e1) (by rw[hlen];exact s1m he hr.w0.1 hub hc.d1)
    rw[this,a1m hr.w0.1 hr.w1.1 hc.m1]
   rw[if_neg k,if_neg k,hm,if_pos (And.intro rfl hf1)];exact ⟨rfl,fun _=>k1⟩
 have okc1:=s1v s0ok (t / c.2.1.1) (u / c.2.1.1);have okc2:=upw_ok s0ok (t / c.2.1.1) (u / c.2.1.1);have i1:TierInv (if t / c.2.1.2.1=u / c.2.1.2.1 then s.2.1 else tput s.2.1 (t / c.2.1.2.1) (cellOf (win c.2.1.2.1 l (t / c.2.1.2.1)))) c.2.1.2.1 (below c.2.1.2.1 l u):=by
  by_cases k:t / c.2.1.2.1=u / c.2.1.2.1
  ·rw[if_pos k,←n0k k];exact h.i1
  ·have:below c.2.1.2.1 l u=l:=a1g fun e hel=>by
    have:=he.wle hr.w1.1 e hel;have:t / c.2.1.2.1≤u / c.2.1.2.1:=Int.ediv_le_ediv (by have:=hr.w1;omega) (by omega);omega
   rw[if_neg k,this];exact r1.2 k
 unfold upw at okc2 ⊢;rw[r1.1] at okc1 okc2 ⊢;generalize hs1:(if t / c.2.1.2.1=u / c.2.1.2.1 then s.2.1 else tput s.2.1 (t / c.2.1.2.1) (cellOf (win c.2.1.2.1 l (t / c.2.1.2.1))))=a1 at *
 have r2:up2 c (a0,(a1,s.2.2)) (t / c.2.1.1) (u / c.2.1.1)=(a0,(a1,if t / c.2.1.2.2=u / c.2.1.2.2 then s.2.2 else tput s.2.2 (t / c.2.1.2.2) (cellOf (win c.2.1.2.2 l (t / c.2.1.2.2))))) ∧
   (t / c.2.1.2.2≠u / c.2.1.2.2→TierInv (tput s.2.2 (t / c.2.1.2.2) (cellOf (win c.2.1.2.2 l (t / c.2.1.2.2)))) c.2.1.2.2 l):=by
  unfold up2;rw[q2.1,q2u.1];by_cases k:t / c.2.1.2.2=u / c.2.1.2.2
  ·rw[if_pos k,if_pos k];exact ⟨rfl,fun n=>absurd k n⟩
  ·obtain ⟨hf2,k2⟩:=i0a he h.i2;have k1':t / c.2.1.2.1≠u / c.2.1.2.1:=fun z=>k (k2v hc z)
   have hb1:below c.2.1.2.1 l u=l:=a1g fun e hel=>by
    have:=he.wle hr.w1.1 e hel;have:t / c.2.1.2.1≤u / c.2.1.2.1:=Int.ediv_le_ediv (by have:=hr.w1;omega) (by omega);omega
   rw[hb1] at i1;have hm:mk2 c (a0,(a1,s.2.2)) (t / c.2.1.2.2)=(cellOf (win c.2.1.2.2 l (t / c.2.1.2.2)),0):=by
    unfold mk2;have e1:0≤c.2.1.2.2 / c.2.1.2.1:=Int.ediv_nonneg (by have:=hr.w2;omega) (by have:=hr.w1;omega);have e0:0≤t / c.2.1.2.2:=Int.ediv_nonneg ht0 (by have:=hr.w2;omega);have hlen:((a1:List Slo).length:Int)=c.2.2.1.2.1:=okc1.n1;have hub:t / c.2.1.2.1<t / c.2.1.2.2*(c.2.1.2.2 / c.2.1.2.1)+c.2.1.2.2 / c.2.1.2.1:=by
     rw[←q12.2];have hp:0<c.2.1.2.2 / c.2.1.2.1:=by
      rcases Int.lt_or_le 0 (c.2.1.2.2 / c.2.1.2.1) with z | z
      ·exact z
      ·exfalso;have e:c.2.1.2.1*(c.2.1.2.2 / c.2.1.2.1)=c.2.1.2.2:=by have:=Int.mul_ediv_add_emod c.2.1.2.2 c.2.1.2.1;have:=hc.m2;omega
       have:c.2.1.2.2 / c.2.1.2.1=0:=by omega
       rw[this,Int.mul_zero] at e;have:=hr.w2;omega
     have:=Int.lt_ediv_add_one_mul_self (t / c.2.1.2.1) hp;rw[Int.add_mul,Int.one_mul] at this;exact this
    have:=n0s i1 he.foll (i:=t / c.2.1.2.2*(c.2.1.2.2 / c.2.1.2.1)) (k:=(t / c.2.1.2.2+1)*(c.2.1.2.2 / c.2.1.2.1)) (Int.mul_nonneg e0 e1)
     (Int.mul_le_mul_of_nonneg_right (by omega) e1) (by rw[hlen];exact s1m he hr.w1.1 hub hc.d2)
    rw[this,a1m hr.w1.1 hr.w2.1 hc.m2]
   rw[if_neg k,if_neg k,hm,if_pos (And.intro rfl hf2)];exact ⟨rfl,fun _=>k2⟩
 rw[r2.1] at okc2 ⊢;refine ⟨okc2,by rw[b0];exact k0,i1,?_⟩;by_cases k:t / c.2.1.2.2=u / c.2.1.2.2
 ·simp only[if_pos k];rw[←n0k k];exact h.i2
 ·have:below c.2.1.2.2 l u=l:=a1g fun e hel=>by
   have:=he.wle hr.w2.1 e hel;have:t / c.2.1.2.2≤u / c.2.1.2.2:=Int.ediv_le_ediv (by have:=hr.w2;omega) (by omega);omega
  simp only[if_neg k];rw[this];exact r2.2 k
end Go.Proofs.YtojobamheigpbaaGreatDoor
namespace Go.Proofs.YtojobamheigpbaaGreatDoor
open Go.Flat Go.Plim
set_option linter.unusedVariables false
set_option linter.unusedSimpArgs false
theorem allE_up {w:Int}:∀(L:List Slo) (c:Cel) (lo:Int),Up L→(∀s∈L,FitsP s.2 w s.1∧lo≤s.1)→b0h c→(c=z0∨c.2.2.1.1 / w<lo)→(allE c (L.map (·.2))).2=0:=by
 intro L;induction L with
 | nil=>intro c lo _ _ _ _;rfl
 | cons s L ih =>
  intro c lo hu hs hc hl;unfold Up at hu;rw[List.pairwise_cons] at hu;obtain ⟨hf,h1⟩:=hs s (by simp);have ha:Ahead c s.2:=by
   rcases hl with h | h
   ·exact .inl h
   ·refine .inr (.inr ?_);have e:=hf.f;rcases Int.lt_or_le c.2.2.1.1 s.2.2.1.1 with q | q
    ·exact q
    ·have:=Int.ediv_le_ediv (c:=w) (by have:=hf.w0;omega) q;omega
  have em:mrgE c s.2=(mrg c s.2,0):=by unfold mrgE;rw[if_pos (And.intro hc hf.n.ok),if_pos ha]
  simp only[List.map_cons,allE];rw[em,if_pos rfl];refine ih _ (s.1+1) hu.2 (fun x hx=>⟨(hs x (by simp[hx])).1,by have:=hu.1 x hx;omega⟩) (v1g hc hf.n.ok ha) (.inr ?_);have el:(mrg c s.2).2.2.1.1=s.2.2.2.1.1:=by
   unfold mrg;by_cases k:c=z0
   ·rw[if_pos k]
   ·rw[if_neg k,if_neg hf.n.ne]
  rw[el,hf.l];omega
theorem i0z {l:List Slo} {w i k:Int} (h:TierOk l w) (h0:0≤i) (hik:i≤k):(tfold l i k).2=0:=by
 unfold tfold;rw[if_neg (by omega)];unfold within;refine allE_up (w:=w) _ z0 0 ((w0s h).filter _) (fun s hs => ?_) p0t (.inl rfl);have:=(i0b h (List.mem_filter.1 hs).1).1;exact ⟨this,this.i0.1⟩
noncomputable def now1 (c:Conf) (s:Ser):Cel×Int:=mrgE (tfold s.2.2.2.1.1 (s.2.1 / c.2.1.2.1*(c.2.1.2.1 / c.2.1.1)) (s.2.1 / c.2.1.1)).1 s.2.2.2.2.2
noncomputable def now2 (c:Conf) (s:Ser):Cel×Int :=
 if (now1 c s).2≠0 then (z0,(now1 c s).2) else mrgE (tfold s.2.2.2.1.2.1 (s.2.1 / c.2.1.2.2*(c.2.1.2.2 / c.2.1.2.1)) (s.2.1 / c.2.1.2.1)).1 (now1 c s).1
theorem g1e (l:List Slo) (i k:Int):CelW (tfold l i k).1 := .of (p0g l i k)
theorem l1z {c:Conf} {s:Ser} (h:SerOk c s) (hn:¬(s.2.1 = -1)):EndsP c s∧∃e,EvOk e∧e.1=s.2.1:=by
 rcases h.st with q | q
 ·exact absurd q.1 hn
 ·obtain ⟨e,he,h1⟩:=q.2.last;exact ⟨q.2,e,m2u h.raw he,h1⟩
theorem m1j {a b t:Int} (ha:1≤a∧a≤1099511627776) (hb:1≤b∧b≤1099511627776) (hm:b % a=0) (ht:0≤t∧t<35184372088832) :
  0≤t / b*(b / a)∧t / b*(b / a)≤t / a∧t / a<35184372088832∧0≤t / a:=by
 have h1:=(edvm (t:=t) ha.1 hb.1 hm).2;have h2:0≤t / b:=Int.ediv_nonneg ht.1 (by omega);have h3:0≤b / a:=Int.ediv_nonneg (by omega) (by omega);have h4:0≤t / a:=Int.ediv_nonneg ht.1 (by omega);have h5:t / a≤t:=Int.ediv_le_self _ ht.1;refine ⟨Int.mul_nonneg h2 h3,?_,by omega,h4⟩;have h6:1≤b / a:=by
  have e:a*(b / a)=b:=by have:=Int.mul_ediv_add_emod b a;omega
  rcases Int.lt_or_le 0 (b / a) with q | q
  ·omega
  ·have:b / a=0:=by omega
   rw[this] at e;omega
 rw[←h1];exact Int.ediv_mul_le _ (by omega)
structure At (c:Conf) (s:Ser):Prop where
 l0:0≤s.2.1
 l1:s.2.1<35184372088832
theorem n0w {c:Conf} {s:Ser} (h:SerOk c s) (hn:¬(s.2.1 = -1)):0≤s.2.1∧s.2.1<35184372088832:=by
 obtain ⟨_,e,he,h1⟩:=l1z h hn;rw[←h1];exact ⟨he.t0,he.t1⟩
theorem p0p {t:Int} (ht:0≤t∧t<35184372088832) {w:Int} (hw:1≤w):IntKind.wrap .i64 (Int.tdiv t w)=t / w:=by
 have:0≤t / w:=Int.ediv_nonneg ht.1 (by omega);have:t / w≤t:=Int.ediv_le_self _ ht.1;rw[m0c ht.1,w64 (by omega) (by omega)]
theorem nz {w:Int} (h:1≤w):¬(w=0):=by omega
theorem v1o (n:Nat) (c:Conf) (s:Ser):m0g (n+1) (c,s) 0=some (s.2.2.2.2.2,0):=by rw[t1p]
theorem mrgE_nn (a b:Cel):0≤(mrgE a b).2:=by
 unfold mrgE;split
 ·split<;>simp
 ·simp
theorem v1n (n:Nat) (c:Conf) {s:Ser} (h:SerOk c s) (hw:SerW s) (hn:¬(s.2.1 = -1)):m0g (n+19) (c,s) 1=some (now1 c s):=by
 have hr:=h.fold.cok.rng;have ht:=n0w h hn;obtain ⟨o1,o2,o3,o4⟩:=m1j hr.w0 hr.w1 h.fold.cok.m1 ht;rw[t1o];simp only[tfd,tfn,if_neg (nz hr.w0.1),if_neg (nz hr.w1.1),p0p ht hr.w0.1,p0p ht hr.w1.1,u1i hr.w1 hr.w0.1];rw[w64 (by omega) (by omega),l0z n h.fold.t0,v1o (n+17)];simp only[obs,i0z h.fold.t0 o1 o2,if_true,h0q (n+12) (g1e _ _ _) hw.opn.c];rfl
theorem now1_w (c:Conf) (s:Ser):CelW (now1 c s).1:=m2k _ _
theorem m2z (n:Nat) (c:Conf) {s:Ser} (h:SerOk c s) (hw:SerW s) (hn:¬(s.2.1 = -1)):m0g (n+20) (c,s) 2=some (now2 c s):=by
 have hr:=h.fold.cok.rng;have ht:=n0w h hn;obtain ⟨o1,o2,o3,o4⟩:=m1j hr.w1 hr.w2 h.fold.cok.m2 ht;rw[t1n];simp only[tfd,tfn,if_neg (nz hr.w1.1),if_neg (nz hr.w2.1),p0p ht hr.w1.1,p0p ht hr.w2.1,u1i hr.w2 hr.w1.1];rw[w64 (by omega) (by omega),l0z (n+1) h.fold.t1,v1n n c h hw hn];simp only[obs,i0z h.fold.t1 o1 o2,if_true,h0q (n+13) (g1e _ _ _) (now1_w c s)];unfold now2;by_cases k:(now1 c s).2=0
 ·rw[if_pos k,if_neg (nn k)]
 ·have:0≤(now1 c s).2:=mrgE_nn _ _;rw[if_neg k,if_pos k,if_pos (by omega)];rfl
noncomputable def c0o (ok:Prop) [Decidable ok] (i j last w:Int) (t:List Slo) (now:Cel×Int):Cel×Int :=
 if ok then (if i<0 then (z0,1) else if j<i then (z0,1) else if last = -1 then (z0,0) else if last / w<i then tfold t i j else if j≤last / w then tfold t i j else if now.2≠0 then (z0,now.2) else mrgE (tfold t i j).1 now.1) else (z0,2)
theorem now2_w (c:Conf) (s:Ser):CelW (now2 c s).1:=by
 unfold now2;split
 ·exact c1h
 ·exact m2k _ _
theorem h2f (n:Nat) (c:Conf) {s:Ser} (h:SerOk c s) (hw:SerW s) {i j:Int} (h0:¬i<0) (hij:¬j<i):q0t (n+21) (c,s) 0 i j=some (c0o (SerOk c s) i j s.2.1 c.2.1.1 s.2.2.2.1.1 (s.2.2.2.2.2,0)):=by
 rw[o1r];unfold c0o;rw[if_pos h,if_neg h0,if_neg hij];simp only[tfd,tfn];by_cases hn:s.2.1 = -1
 ·rw[if_pos hn,if_pos hn];rfl
 have hr:=h.fold.cok.rng;have ht:=n0w h hn;rw[if_neg hn,if_neg hn,if_neg (nz hr.w0.1),p0p ht hr.w0.1,l0z (n+2) h.fold.t0];simp only[obs,i0z h.fold.t0 (show 0≤i by omega) (show i≤j by omega),if_true];by_cases h2:s.2.1 / c.2.1.1<i
 ·rw[if_pos h2,if_pos h2]
 rw[if_neg h2,if_neg h2];by_cases h3:j≤s.2.1 / c.2.1.1
 ·rw[if_pos h3,if_pos h3]
 rw[if_neg h3,if_neg h3,v1o (n+19) c s];simp only[obs,h0q (n+14) (g1e _ _ _) hw.opn.c];rw[if_pos trivial,if_neg (nn rfl)]
theorem o1z (n:Nat) (c:Conf) {s:Ser} (hw:SerW s) (i j:Int):d0o (n+22) c s 0 i j=some (c0o (SerOk c s) i j s.2.1 c.2.1.1 s.2.2.2.1.1 (s.2.2.2.2.2,0)):=by
 rw[m0n,f0p (n+11) c hw];by_cases h:SerOk c s
 case neg=>unfold c0o;rw[if_neg h,if_neg h];rfl
 rw[if_pos h];simp only[obs,j0k,decide_true,Bool.not_true,tff,tfd,if_neg (show ¬((0:Int)<0) by omega),if_neg (show ¬((3:Int)≤0) by omega)];by_cases h1:i<0
 ·unfold c0o;rw[if_pos h1,if_pos h,if_pos h1];rfl
 by_cases h2:j<i
 ·unfold c0o;rw[if_neg h1,if_pos h2,if_pos h,if_neg h1,if_pos h2];rfl
 rw[if_neg h1,if_neg h2,h2f n c h hw h1 h2];rfl
theorem h2e (n:Nat) (c:Conf) {s:Ser} (h:SerOk c s) (hw:SerW s) {i j:Int} (h0:¬i<0) (hij:¬j<i):q0t (n+21) (c,s) 1 i j=some (c0o (SerOk c s) i j s.2.1 c.2.1.2.1 s.2.2.2.1.2.1 (now1 c s)):=by
 rw[o1q];unfold c0o;rw[if_pos h,if_neg h0,if_neg hij];simp only[tfd,tfn];by_cases hn:s.2.1 = -1
 ·rw[if_pos hn,if_pos hn];rfl
 have hr:=h.fold.cok.rng;have ht:=n0w h hn;rw[if_neg hn,if_neg hn,if_neg (nz hr.w1.1),p0p ht hr.w1.1,l0z (n+2) h.fold.t1];simp only[obs,i0z h.fold.t1 (show 0≤i by omega) (show i≤j by omega),if_true];by_cases h2:s.2.1 / c.2.1.2.1<i
 ·rw[if_pos h2,if_pos h2]
 rw[if_neg h2,if_neg h2];by_cases h3:j≤s.2.1 / c.2.1.2.1
 ·rw[if_pos h3,if_pos h3]
 rw[if_neg h3,if_neg h3,v1n (n+1) c h hw hn];simp only[obs,h0q (n+14) (g1e _ _ _) (now1_w c s)];by_cases h4:(now1 c s).2=0
 ·rw[if_pos h4,if_neg (nn h4)]
 ·rw[if_neg h4,if_pos h4];rfl
theorem o1y (n:Nat) (c:Conf) {s:Ser} (hw:SerW s) (i j:Int):d0o (n+22) c s 1 i j=some (c0o (SerOk c s) i j s.2.1 c.2.1.2.1 s.2.2.2.1.2.1 (now1 c s)):=by
 rw[m0n,f0p (n+11) c hw];by_cases h:SerOk c s
 case neg=>unfold c0o;rw[if_neg h,if_neg h];rfl
 rw[if_pos h];simp only[obs,j0k,decide_true,Bool.not_true,tff,tfd,if_neg (show ¬((1:Int)<0) by omega),if_neg (show ¬((3:Int)≤1) by omega)];by_cases h1:i<0
 ·unfold c0o;rw[if_pos h1,if_pos h,if_pos h1];rfl
 by_cases h2:j<i
 ·unfold c0o;rw[if_neg h1,if_pos h2,if_pos h,if_neg h1,if_pos h2];rfl
 rw[if_neg h1,if_neg h2,h2e n c h hw h1 h2];rfl
theorem h2d (n:Nat) (c:Conf) {s:Ser} (h:SerOk c s) (hw:SerW s) {i j:Int} (h0:¬i<0) (hij:¬j<i):q0t (n+21) (c,s) 2 i j=some (c0o (SerOk c s) i j s.2.1 c.2.1.2.2 s.2.2.2.1.2.2 (now2 c s)):=by
 rw[o1p];unfold c0o;rw[if_pos h,if_neg h0,if_neg hij];simp only[tfd,tfn];by_cases hn:s.2.1 = -1
 ·rw[if_pos hn,if_pos hn];rfl
 have hr:=h.fold.cok.rng;have ht:=n0w h hn;rw[if_neg hn,if_neg hn,if_neg (nz hr.w2.1),p0p ht hr.w2.1,l0z (n+2) h.fold.t2];simp only[obs,i0z h.fold.t2 (show 0≤i by omega) (show i≤j by omega),if_true];by_cases h2:s.2.1 / c.2.1.2.2<i
 ·rw[if_pos h2,if_pos h2]
 rw[if_neg h2,if_neg h2];by_cases h3:j≤s.2.1 / c.2.1.2.2
 ·rw[if_pos h3,if_pos h3]
 rw[if_neg h3,if_neg h3,m2z n c h hw hn];simp only[obs,h0q (n+14) (g1e _ _ _) (now2_w c s)];by_cases h4:(now2 c s).2=0
 ·rw[if_pos h4,if_neg (nn h4)]
 ·rw[if_neg h4,if_pos h4];rfl
theorem o1x (n:Nat) (c:Conf) {s:Ser} (hw:SerW s) (i j:Int):d0o (n+22) c s 2 i j=some (c0o (SerOk c s) i j s.2.1 c.2.1.2.2 s.2.2.2.1.2.2 (now2 c s)):=by
 rw[m0n,f0p (n+11) c hw];by_cases h:SerOk c s
 case neg=>unfold c0o;rw[if_neg h,if_neg h];rfl
 rw[if_pos h];simp only[obs,j0k,decide_true,Bool.not_true,tff,tfd,if_neg (show ¬((2:Int)<0) by omega),if_neg (show ¬((3:Int)≤2) by omega)];by_cases h1:i<0
 ·unfold c0o;rw[if_pos h1,if_pos h,if_pos h1];rfl
 by_cases h2:j<i
 ·unfold c0o;rw[if_neg h1,if_pos h2,if_pos h,if_neg h1,if_pos h2];rfl
 rw[if_neg h1,if_neg h2,h2d n c h hw h1 h2];rfl
structure SerL (s:Ser):Prop where
 l:s.1.length≤1000000
 r:s.2.2.1.2.2.length≤1000000
 a:s.2.2.2.1.1.length≤1000000
 b:s.2.2.2.1.2.1.length≤1000000
 d:s.2.2.2.1.2.2.length≤1000000
theorem t1v (n:Nat) (c:Conf) {s:Ser} (hw:SerW s):t0c (n+11) c s=some (if SerOk c s then 0 else 2):=by
 rw[g1v,f0p n c hw];by_cases h:SerOk c s
 ·rw[if_pos h,if_pos h];rfl
 ·rw[if_neg h,if_neg h];rfl
theorem k2o (n:Nat) (l:List Lab) (hL:l.length≤9223372036854775807):∀(rest pre:List Lab) (f:Nat) (ix len:Int),l=pre++rest→ix=pre.length→len=l.length→rest.length<f →
  k0g n f (l,len,ix,())=some (.inl ())∨k0g n f (l,len,ix,())=some (.inr 0):=by
 intro rest;induction rest with
 | nil =>
  intro pre f ix len hl hi hn hf;obtain ⟨f,rfl⟩:∃g,f=g+1:=⟨f-1,by simp at hf;omega⟩;left;rw[t0s];simp only[tfd,if_neg (idxe hl hi hn)]
 | cons x rest ih =>
  intro pre f ix len hl hi hn hf;obtain ⟨f,rfl⟩:∃g,f=g+1:=⟨f-1,by simp at hf;omega⟩;have hlen:=congrArg List.length hl;simp at hlen;rw[t0s];simp only[tfd,if_pos (idx hl hi hn),b0s hl hi,obs];rw[w64 (x:=ix+1) (by omega) (by omega)];by_cases h1:ix=40
  ·right;rw[if_pos h1]
  rw[if_neg h1];by_cases h2:(1000:Int)<x.1.length
  ·right;rw[if_pos h2]
  rw[if_neg h2];by_cases h3:(1000:Int)<x.2.length
  ·right;rw[if_pos h3]
  rw[if_neg h3];exact ih (pre++[x]) f (ix+1) len (idxl hl) (idxs hi) hn (by simp at hf;omega)
theorem z0o (n:Nat) (l:List Lab) (hL:l.length≤9223372036854775807):m0x (n+1) l=some 0∨m0x (n+1) l=some 1:=by
 rw[v1m];rcases k2o n l hL l [] a0b 0 _ rfl rfl rfl (by unfold a0b;omega) with h | h
 ·right;rw[h];rfl
 ·left;rw[h];rfl
theorem x0h (n:Nat) (a b:List Lab) (hL:a.length≤9223372036854775807):∀(ra rb pa pb:List Lab) (f:Nat) (ix len:Int),a=pa++ra→b=pb++rb→pa.length=pb.length→ra.length=rb.length→ix=pa.length→len=a.length→ra.length<f →
  f0x n f (a,b,len,ix,())=some (if ra=rb then .inl () else .inr false):=by
 intro ra;induction ra with
 | nil =>
  intro rb pa pb f ix len ha hb hp hr hi hn hf;obtain ⟨f,rfl⟩:∃g,f=g+1:=⟨f-1,by simp at hf;omega⟩;have e:rb=[]:=List.length_eq_zero_iff.1 (by simpa using hr.symm);subst e;rw[k0x,decide_eq_false (idxe ha hi hn),tff,if_pos rfl]
 | cons x ra ih =>
  intro rb pa pb f ix len ha hb hp hr hi hn hf;obtain ⟨f,rfl⟩:∃g,f=g+1:=⟨f-1,by simp at hf;omega⟩;cases rb with
  | nil=>simp at hr
  | cons y rb =>
   have hlen:=congrArg List.length ha;simp at hlen;rw[k0x,decide_eq_true (idx ha hi hn),tft,b0s ha hi,b0s hb (by omega)];simp only[obs,labEq];rw[w64 (x:=ix+1) (by omega) (by omega)];by_cases h:x=y
   ·subst h;simp only[decide_true,Bool.not_true,tff];rw[ih rb (pa++[x]) (pb++[x]) f (ix+1) len (idxl ha) (idxl hb) (by simp;omega) (by simpa using hr) (idxs hi) hn (by simp at hf;omega)];simp
   ·rw[if_neg (by simp[h])];simp only[decide_eq_false h,Bool.not_false,tft]
theorem q0a (n:Nat) (a b:List Lab) (hL:a.length≤9223372036854775807):o0q (n+1) a b=some (decide (a=b)):=by
 rw[b1b];by_cases h:a.length=b.length
 ·rw[decide_eq_true (show ((a.length:Nat):Int)=(b.length:Nat) by omega)];simp only[Bool.not_true,tff];rw[x0h n a b hL a b [] [] a0b 0 _ rfl rfl rfl h rfl rfl (by unfold a0b;omega)];by_cases h':a=b
  ·rw[if_pos h',decide_eq_true h'];rfl
  ·rw[if_neg h',decide_eq_false h'];rfl
 ·rw[decide_eq_false (show ¬((a.length:Nat):Int)=(b.length:Nat) by omega),decide_eq_false (fun k:a=b=>h (by rw[k]))];rfl
theorem x0i (n:Nat) (a b:List Ev) (hL:a.length≤9223372036854775807):∀(ra rb pa pb:List Ev) (f:Nat) (ix len:Int),a=pa++ra→b=pb++rb→pa.length=pb.length→ra.length=rb.length→ix=pa.length→len=a.length→ra.length<f →
  f0y n f (a,b,len,ix,())=some (if ra=rb then .inl () else .inr false):=by
 intro ra;induction ra with
 | nil =>
  intro rb pa pb f ix len ha hb hp hr hi hn hf;obtain ⟨f,rfl⟩:∃g,f=g+1:=⟨f-1,by simp at hf;omega⟩;have e:rb=[]:=List.length_eq_zero_iff.1 (by simpa using hr.symm);subst e;rw[k0y,decide_eq_false (idxe ha hi hn),tff,if_pos rfl]
 | cons x ra ih =>
  intro rb pa pb f ix len ha hb hp hr hi hn hf;obtain ⟨f,rfl⟩:∃g,f=g+1:=⟨f-1,by simp at hf;omega⟩;cases rb with
  | nil=>simp at hr
  | cons y rb =>
   have hlen:=congrArg List.length ha;simp at hlen;rw[k0y,decide_eq_true (idx ha hi hn),tft,b0s ha hi,b0s hb (by omega)];simp only[obs,evEq];rw[w64 (x:=ix+1) (by omega) (by omega)];by_cases h:x=y
   ·subst h;simp only[decide_true,Bool.not_true,tff];rw[ih rb (pa++[x]) (pb++[x]) f (ix+1) len (idxl ha) (idxl hb) (by simp;omega) (by simpa using hr) (idxs hi) hn (by simp at hf;omega)];simp
   ·rw[if_neg (by simp[h])];simp only[decide_eq_false h,Bool.not_false,tft]
theorem c1c (n:Nat) (a b:List Ev) (hL:a.length≤9223372036854775807):o0r (n+1) a b=some (decide (a=b)):=by
 rw[b1c];by_cases h:a.length=b.length
 ·rw[decide_eq_true (show ((a.length:Nat):Int)=(b.length:Nat) by omega)];simp only[Bool.not_true,tff];rw[x0i n a b hL a b [] [] a0b 0 _ rfl rfl rfl h rfl rfl (by unfold a0b;omega)];by_cases h':a=b
  ·rw[if_pos h',decide_eq_true h'];rfl
  ·rw[if_neg h',decide_eq_false h'];rfl
 ·rw[decide_eq_false (show ¬((a.length:Nat):Int)=(b.length:Nat) by omega),decide_eq_false (fun k:a=b=>h (by rw[k]))];rfl
theorem z0w (n:Nat) (a b:List Slo) (hL:a.length≤9223372036854775807):∀(ra rb pa pb:List Slo) (f:Nat) (ix len:Int),a=pa++ra→b=pb++rb→pa.length=pb.length→ra.length=rb.length→ix=pa.length→len=a.length→ra.length<f →
  g0v n f (a,b,len,ix,())=some (if ra=rb then .inl () else .inr false):=by
 intro ra;induction ra with
 | nil =>
  intro rb pa pb f ix len ha hb hp hr hi hn hf;obtain ⟨f,rfl⟩:∃g,f=g+1:=⟨f-1,by simp at hf;omega⟩;have e:rb=[]:=List.length_eq_zero_iff.1 (by simpa using hr.symm);subst e;rw[m0i,decide_eq_false (idxe ha hi hn),tff,if_pos rfl]
 | cons x ra ih =>
  intro rb pa pb f ix len ha hb hp hr hi hn hf;obtain ⟨f,rfl⟩:∃g,f=g+1:=⟨f-1,by simp at hf;omega⟩;cases rb with
  | nil=>simp at hr
  | cons y rb =>
   have hlen:=congrArg List.length ha;simp at hlen;rw[m0i,decide_eq_true (idx ha hi hn),tft,b0s ha hi,b0s hb (by omega)];simp only[obs,sloEq];rw[w64 (x:=ix+1) (by omega) (by omega)];by_cases h:x=y
   ·subst h;simp only[decide_true,Bool.not_true,tff];rw[ih rb (pa++[x]) (pb++[x]) f (ix+1) len (idxl ha) (idxl hb) (by simp;omega) (by simpa using hr) (idxs hi) hn (by simp at hf;omega)];simp
   ·rw[if_neg (by simp[h])];simp only[decide_eq_false h,Bool.not_false,tft]
theorem k0o (n:Nat) (a b:List Slo) (hL:a.length≤9223372036854775807):i0e (n+1) a b=some (decide (a=b)):=by
 rw[d1r];by_cases h:a.length=b.length
 ·rw[decide_eq_true (show ((a.length:Nat):Int)=(b.length:Nat) by omega)];simp only[Bool.not_true,tff];rw[z0w n a b hL a b [] [] a0b 0 _ rfl rfl rfl h rfl rfl (by unfold a0b;omega)];by_cases h':a=b
  ·rw[if_pos h',decide_eq_true h'];rfl
  ·rw[if_neg h',decide_eq_false h'];rfl
 ·rw[decide_eq_false (show ¬((a.length:Nat):Int)=(b.length:Nat) by omega),decide_eq_false (fun k:a=b=>h (by rw[k]))];rfl
noncomputable instance decSer (a b:Ser):Decidable (a=b):=Classical.propDecidable _
structure SerM (s:Ser):Prop where
 l:s.1.length≤9223372036854775807
 r:s.2.2.1.2.2.length≤9223372036854775807
 a:s.2.2.2.1.1.length≤9223372036854775807
 b:s.2.2.2.1.2.1.length≤9223372036854775807
 d:s.2.2.2.1.2.2.length≤9223372036854775807
theorem y1i (n:Nat) (a b:Ser) (h:SerM a):m0m (n+3) a b=some (decide (a=b)):=by
 rw[k1f,z0m,y1t,q0a n _ _ h.l,c1c n _ _ h.r,k0o (n+1) _ _ h.a,k0o (n+1) _ _ h.b,k0o (n+1) _ _ h.d];obtain ⟨a1,a2,⟨r1,r2,r3⟩,⟨t1,t2,t3⟩,a5⟩:=a;obtain ⟨b1,b2,⟨q1,q2,q3⟩,⟨u1,u2,u3⟩,b5⟩:=b;simp only[obs,sloEq,tfd];by_cases h1:a1=b1
 case neg=>simp[h1]
 by_cases h2:a2=b2
 case neg=>simp[h1,h2]
 by_cases h3:r1=q1
 case neg=>simp[h1,h2,h3]
 by_cases h4:r2=q2
 case neg=>simp[h1,h2,h3,h4]
 by_cases h5:r3=q3
 case neg=>simp[h1,h2,h3,h4,h5]
 by_cases h6:t1=u1
 case neg=>simp[h1,h2,h3,h4,h5,h6]
 by_cases h7:t2=u2
 case neg=>simp[h1,h2,h3,h4,h5,h6,h7]
 by_cases h8:t3=u3
 case neg=>simp[h1,h2,h3,h4,h5,h6,h7,h8]
 by_cases h9:a5=b5
 case neg=>simp[h1,h2,h3,h4,h5,h6,h7,h8,h9]
 simp[h1,h2,h3,h4,h5,h6,h7,h8,h9]
def oldV (now w m:Int):Int×Int:=if OfP now w∧1≤m∧m≤4096 then (if 0<now / w+1-m then now / w+1-m else 0,0) else (0,1)
theorem s0r (n:Nat) (now w m:Int):d0e (n+4) now w m=some (oldV now w m):=by
 rw[s1s,wi_of n now w,s1q];unfold oldV;by_cases h:OfP now w
 case neg=>rw[if_neg h,if_neg (fun k=>h k.1)];rfl
 rw[if_pos h];have hq:=u1j h;simp only[obs,decide_true,Bool.not_true,tff];by_cases h1:1≤m
 case neg=>simp[h,h1]
 by_cases h2:m≤4096
 case neg=>simp[h,h1,h2]
 rw[w64 (x:=now / w+1) (by omega) (by omega),w64 (x:=now / w+1-m) (by omega) (by omega)];simp[h,h1,h2]
noncomputable def r0u (t now w m:Int):Bool:=decide (OfP t w∧(oldV now w m).2=0∧t / w<(oldV now w m).1)
theorem x1c (n:Nat) (t now w m:Int):f1u (n+5) t now w m=some (r0u t now w m):=by
 rw[e2t,wi_of (n+1) t w,s0r n now w m];unfold r0u;simp only[obs,tfd];by_cases h:OfP t w
 case neg=>rw[if_neg h,if_neg (by simp),decide_eq_false (fun k=>h k.1)]
 rw[if_pos h,if_pos rfl];by_cases h1:(oldV now w m).2=0
 ·rw[if_pos h1];exact congrArg some (decide_eq_decide.2 ⟨fun k=>⟨h,h1,k⟩,fun k=>k.2.2⟩)
 ·rw[if_neg h1,decide_eq_false (fun k=>h1 k.2.1)]
noncomputable def o0z (c:Conf) (last now:Int):Bool :=
 decide (OkC c)&&(r0u last now c.2.1.1 c.2.2.1.1&&(r0u last now c.2.1.2.1 c.2.2.1.2.1&&r0u last now c.2.1.2.2 c.2.2.1.2.2))
theorem g1u (n:Nat) (c:Conf) (last now:Int):r0a (n+6) c last now=some (o0z c last now):=by
 rw[k1g,q0c (n+2) c,x1c n,x1c n,x1c n];unfold o0z;by_cases h:OkC c
 case neg=>rw[if_neg h,decide_eq_false h];rfl
 rw[if_pos h,decide_eq_true h];simp only[obs,decide_true,tft,Bool.true_and];cases r0u last now c.2.1.1 c.2.2.1.1<;>cases r0u last now c.2.1.2.1 c.2.2.1.2.1<;>cases r0u last now c.2.1.2.2 c.2.2.1.2.2<;>rfl
noncomputable def newV (c:Conf) (l:List Lab):Ser×Int :=
 if OkC c then (if LabOk l then ((l,(-1,(r0w,(emp c,s0)))),0) else (ser0,8)) else (ser0,2)
theorem x0l (n:Nat) (l:List Lab) (h:l.length≤1000000):f0b (n+1) l=some l:=by
 rw[b1d,decide_eq_true (show (0+l.length)*32≤140737488355328 by omega)];simp only[tft,List.nil_append];by_cases h0:l.length=0
 ·rw[decide_eq_true h0,tft,List.length_eq_zero_iff.1 h0,j1h]
 ·rw[decide_eq_false h0,tff]
theorem f2s (n:Nat) (c:Conf) (l:List Lab):u0s (n+7) c l=some (newV c l):=by
 rw[p1b,q0c (n+3) c,g0y n l];unfold newV;by_cases h:OkC c
 case neg=>rw[if_neg h,if_neg h];rfl
 rw[if_pos h,if_pos h];simp only[obs,decide_true,Bool.not_true,tff];by_cases h1:LabOk l
 case neg=>rw[if_neg h1,if_neg h1];rfl
 rw[if_pos h1,if_pos h1,x0l (n+5) l (by have:=h1.n1;omega),h2u (n+2) c];rfl
abbrev Sta:=Conf×(Int×(Int×List Ser))
structure StaW (s:Sta):Prop where
 len:s.2.2.2.length≤9223372036854775807
 ser:∀x∈s.2.2.2,SerW x∧SerM x
def Whole (s:Sta):Prop:=OkC s.1∧(s.2.2.2.length:Int)=s.1.2.2.2.1
noncomputable instance (s):Decidable (Whole s):=Classical.propDecidable _
def LvX (s:Sta) (x:Ser):Prop:=x≠ser0∧(s.2.2.1 = -1∨o0z s.1 x.2.1 s.2.2.1=false)
noncomputable instance (s x):Decidable (LvX s x):=Classical.propDecidable _
def t0z (t:Int):Prop:=0≤t∧t<35184372088832
instance (t):Decidable (t0z t):=by unfold t0z;infer_instance
def Clock (s:Sta):Prop:=t0z s.2.1∧(s.2.2.1 = -1∨t0z s.2.2.1)∧s.2.2.1≤s.2.1
instance (s):Decidable (Clock s):=by unfold Clock;infer_instance
def mk (s:Sta):Int:=s.2.1 / s.1.2.1.1*s.1.2.1.1
def Twin (s:Sta) (i:Nat) (x:Ser):Prop:=LvX s x∧∃k,k<i∧∃y,s.2.2.2[k]? = some y∧LvX s y∧y.1=x.1
noncomputable instance (s i x):Decidable (Twin s i x):=Classical.propDecidable _
def u0a (s:Sta) (i:Nat) (x:Ser):Prop:=x=ser0∨(SerOk s.1 x∧0≤x.2.1∧x.2.1<mk s+s.1.2.1.1∧¬Twin s i x)
noncomputable instance (s i x):Decidable (u0a s i x):=Classical.propDecidable _
structure StaOk (s:Sta):Prop where
 whole:Whole s
 clock:Clock s
 right:∀(i:Nat) x,s.2.2.2[i]? = some x→u0a s i x
noncomputable instance (s):Decidable (StaOk s):=Classical.propDecidable _
theorem Whole.len {s:Sta} (h:Whole s):s.2.2.2.length≤65536:=by
 have:=h.1.rng.cap;have:=h.2;omega
theorem e1p {α:Type} {l:List α} {i:Nat} {x:α} (h:l[i]? = some x):at? l (i:Int)=some x:=by
 unfold at?;rw[decide_eq_true (show (0:Int)≤(i:Int) by omega),Int.toNat_natCast];exact h
theorem StaW.at {s:Sta} (h:StaW s) {i:Nat} {x:Ser} (hx:s.2.2.2[i]? = some x):SerW x∧SerM x:=h.ser x (List.mem_of_getElem? hx)
theorem ser0_m:SerM ser0:=⟨by simp[ser0],by simp[ser0,r0w],by simp[ser0],by simp[ser0],by simp[ser0]⟩
theorem b2r (n:Nat) {x:Ser} (h:SerM x):y0e (n+4) x=some (decide (x=ser0)):=by
 have:=y1i n x ser0 h;rw[t1l];have e:m0m (n+3) x ([],((0:Int),(((0:Int),((0:Int),[])),(([],([],[])),((0:Int),z0)))))=some (decide (x=ser0)):=this
 change a0a (m0m (n+3) x ([],((0:Int),(((0:Int),((0:Int),[])),(([],([],[])),((0:Int),z0)))))) _=_
 rw[e];rfl
theorem y0g (n:Nat) {s:Sta} {i:Nat} {x:Ser} (hx:s.2.2.2[i]? = some x) (hm:SerM x):d0t (n+7) s (i:Int)=some (decide (LvX s x)):=by
 rw[a1y,e1p hx,obs,b2r (n+2) hm,obs,tfn,tfd,g1u n];by_cases h:x=ser0
 ·rw[if_pos h,decide_eq_false (fun k:LvX s x=>k.1 h)]
 rw[if_neg h,tfd];by_cases h1:s.2.2.1 = -1
 ·rw[if_pos h1,decide_eq_true (show LvX s x from ⟨h,.inl h1⟩)]
 ·rw[if_neg h1];cases hd:o0z s.1 x.2.1 s.2.2.1
  ·rw[decide_eq_true (show LvX s x from ⟨h,.inr hd⟩)];rfl
  ·rw[decide_eq_false (fun k:LvX s x=>by rcases k.2 with k | k;exact h1 k;rw[hd] at k;cases k)];rfl
theorem place_l (n:Nat) (is:(Int×Unit)→Option Bool) (p:Nat→Bool) (L:Nat) (hL:L≤1000000) (his:∀k:Nat,k<L→is ((k:Int),())=some (p k)):∀(d k f:Nat),k+d=L→d<f →
  (∃m:Nat,k≤m∧m<L∧p m=true∧(∀j,k≤j→j<m→p j=false)∧c0g n f (is,(L:Int),(k:Int),())=some (.inr (m:Int))) ∨
  ((∀j,k≤j→j<L→p j=false)∧c0g n f (is,(L:Int),(k:Int),())=some (.inl ())):=by
 intro d;induction d with
 | zero =>
  intro k f hk hf;obtain ⟨f,rfl⟩:∃g,f=g+1:=⟨f-1,by omega⟩;refine .inr ⟨fun j h1 h2=>by omega,?_⟩;rw[k0u,decide_eq_false (by omega),tff]
 | succ d ih =>
  intro k f hk hf;obtain ⟨f,rfl⟩:∃g,f=g+1:=⟨f-1,by omega⟩;rw[k0u,decide_eq_true (by omega),tft,his k (by omega),obs];cases hp:p k
  ·rw[tff,w64 (by omega) (by omega),show ((k:Int)+1)=((k+1:Nat):Int) by omega];rcases ih (k+1) f (by omega) (by omega) with ⟨m,h1,h2,h3,h4,h5⟩ | ⟨h1,h2⟩
   ·exact .inl ⟨m,by omega,h2,h3,fun j q1 q2=>by
     rcases Nat.lt_or_ge k j with q | q
     ·exact h4 j (by omega) q2
     ·rw[show j=k by omega];exact hp,h5⟩
   ·exact .inr ⟨fun j q1 q2=>by
     rcases Nat.lt_or_ge k j with q | q
     ·exact h1 j (by omega) q2
     ·rw[show j=k by omega];exact hp,h2⟩
  ·rw[tft];exact .inl ⟨k,Nat.le_refl _,by omega,hp,fun j q1 q2=>by omega,rfl⟩
theorem z0v (n:Nat) (s:Sta) (is:(Int×Unit)→Option Bool) (p:Nat→Bool) (hL:s.2.2.2.length≤1000000) (his:∀k:Nat,k<s.2.2.2.length→is ((k:Int),())=some (p k)) :
  (∃m:Nat,m<s.2.2.2.length∧p m=true∧(∀j,j<m→p j=false)∧d0s (n+1) s is=some (m:Int)) ∨
  ((∀j,j<s.2.2.2.length→p j=false)∧d0s (n+1) s is=some (-1)):=by
 rw[a1x];rcases place_l n is p _ hL his s.2.2.2.length 0 a0b (by omega) (by unfold a0b;omega) with ⟨m,h1,h2,h3,h4,h5⟩ | ⟨h1,h2⟩
 ·refine .inl ⟨m,h2,h3,fun j q=>h4 j (by omega) q,?_⟩;have h5':c0g n a0b (is,(s.2.2.2.length:Int),(0:Int),())=some (.inr (m:Int)):=h5;rw[h5'];rfl
 ·refine .inr ⟨fun j q=>h1 j (by omega) q,?_⟩;have h2':c0g n a0b (is,(s.2.2.2.length:Int),(0:Int),())=some (.inl ()):=h2;rw[h2'];rfl
theorem m1t (n:Nat) (a b:List Lab) (h:a.length≤9223372036854775807):p0v (n+2) a b=some (decide (a=b)):=by
 rw[z0m,q0a n a b h];rfl
def IsTw (s:Sta) (i k:Nat) (x:Ser):Prop:=k=i∨∃y,s.2.2.2[k]? = some y∧LvX s y∧y.1=x.1
noncomputable instance (s i k x):Decidable (IsTw s i k x):=Classical.propDecidable _
theorem st_twin (n:Nat) {s:Sta} (hw:StaW s) (hL:s.2.2.2.length≤1000000) {i:Nat} {x:Ser} (hx:s.2.2.2[i]? = some x):q0r (n+9) s (i:Int)=some (decide (Twin s i x)):=by
 have hil:i<s.2.2.2.length:=(List.getElem?_eq_some_iff.1 hx).1;have hm:=(hw.at hx).2;rw[d1p];have his:∀k:Nat,k<s.2.2.2.length→(fun y0:Int×Unit=>f0o (n+8) y0.1 (i:Int) s) ((k:Int),())=some (decide (IsTw s i k x)):=by
  intro k hk;have hy:s.2.2.2[k]? = some s.2.2.2[k]:=List.getElem?_eq_getElem hk;generalize s.2.2.2[k]=y at hy;have hmy:=(hw.at hy).2;show f0o (n+8) (k:Int) (i:Int) s=_;rw[y0c,tfd,y0g n hy hmy,obs,e1p hy,obs,e1p hx,obs,m1t (n+5) _ _ hmy.l,obs,tfd];by_cases h1:k=i
  ·rw[if_pos (by rw[h1]),decide_eq_true (show IsTw s i k x from .inl h1)]
  rw[if_neg (by omega)];by_cases h2:LvX s y
  ·rw[if_pos h2];refine congrArg some (decide_eq_decide.2 ⟨fun h3 => .inr ⟨y,hy,h2,h3⟩,fun h3 => ?_⟩);rcases h3 with h3 | ⟨z,z1,z2,z3⟩
   ·exact absurd h3 h1
   ·rw[hy] at z1;cases z1;exact z3
  ·rw[if_neg h2,decide_eq_false];rintro (h3 | ⟨z,z1,z2,z3⟩)
   ·exact h1 h3
   ·rw[hy] at z1;cases z1;exact h2 z2
 rcases z0v (n+7) s (fun y0:Int×Unit=>f0o (n+8) y0.1 (i:Int) s) (fun k=>decide (IsTw s i k x)) hL his with ⟨m,h1,h2,h3,h4⟩ | ⟨h1,h2⟩
 ·rw[h4,obs,tfd,y0g (n+1) hx hm];have h2:=of_decide_eq_true h2;have hmi:m≤i:=by
   rcases Nat.lt_or_ge i m with q | q
   ·have:=of_decide_eq_false (h3 i q);exact absurd (.inl rfl) this
   ·exact q
  by_cases q:m<i
  ·rw[if_pos (by omega),obs];refine congrArg some (decide_eq_decide.2 ⟨fun k=>⟨k,m,q,?_⟩,fun k=>k.1⟩);exact h2.resolve_left (by omega)
  ·rw[if_neg (by omega),decide_eq_false];rintro ⟨k1,k,k2,k3⟩;exact of_decide_eq_false (h3 k (by omega)) (.inr k3)
 ·exact absurd (.inl rfl) (of_decide_eq_false (h1 i hil))
theorem z0g {s:Sta} (h:t0z s.2.1) (hw:1≤s.1.2.1.1∧s.1.2.1.1≤1099511627776):0≤mk s∧mk s≤s.2.1∧s.2.1<mk s+s.1.2.1.1∧s.2.1-s.2.1 % s.1.2.1.1=mk s:=by
 have e:=Int.mul_ediv_add_emod s.2.1 s.1.2.1.1;have e1:=Int.emod_nonneg s.2.1 (show s.1.2.1.1≠0 by omega);have e2:=Int.emod_lt_of_pos s.2.1 (show 0<s.1.2.1.1 by omega);rw[Int.mul_comm] at e;have e3:0≤mk s:=Int.mul_nonneg (Int.ediv_nonneg h.1 (by omega)) (by omega);unfold mk at *
 exact ⟨e3,by omega,by omega,by omega⟩
theorem k2l (n:Nat) {s:Sta} (h:t0z s.2.1) (hw:1≤s.1.2.1.1∧s.1.2.1.1≤1099511627776):l0d (n+1) s=some (mk s):=by
 have:=z0g h hw;have:=h.1;have:=h.2;rw[d1q,tfd,if_neg (by omega),o0l h.1,w64 (by omega) (by omega),(z0g h hw).2.2.2]
theorem st_right (n:Nat) {s:Sta} (hw:StaW s) (hh:Whole s) (ht:t0z s.2.1) {i:Nat} {x:Ser} (hx:s.2.2.2[i]? = some x):o0m (n+12) s (i:Int)=some (decide (u0a s i x)):=by
 have hm:=hw.at hx;have hr:=hh.1.rng;have hL:=hh.len;have hmk:=z0g ht hr.w0;have ht1:=ht.1;have ht2:=ht.2;have hw0:=hr.w0;obtain ⟨m1,m2,m3,m4⟩:=hmk;rw[a1w,e1p hx,obs,b2r (n+7) hm.2,obs,tfd,t1v n s.1 hm.1,obs,k2l (n+10) ht hr.w0,obs,w64 (by omega) (by omega),st_twin (n+2) hw (by omega) hx,obs];simp only[tfd];by_cases h0:x=ser0
 ·rw[if_pos h0,decide_eq_true (show u0a s i x from .inl h0)]
 rw[if_neg h0];by_cases h1:SerOk s.1 x
 case neg=>rw[if_neg h1,if_neg (by decide),decide_eq_false (fun q:u0a s i x=>by rcases q with k | k;exact h0 k;exact h1 k.1)]
 rw[if_pos h1,if_pos rfl];by_cases h2:0≤x.2.1
 case neg=>rw[if_neg h2,decide_eq_false (fun q:u0a s i x=>by rcases q with k | k;exact h0 k;exact h2 k.2.1)]
 rw[if_pos h2];by_cases h3:x.2.1<mk s+s.1.2.1.1
 case neg=>rw[if_neg h3,decide_eq_false (fun q:u0a s i x=>by rcases q with k | k;exact h0 k;exact h3 k.2.2.1)]
 rw[if_pos h3];by_cases h4:Twin s i x
 ·rw[decide_eq_true h4,decide_eq_false (fun q:u0a s i x=>by rcases q with k | k;exact h0 k;exact k.2.2.2 h4)];rfl
 ·rw[decide_eq_false h4,decide_eq_true (show u0a s i x from .inr ⟨h1,h2,h3,h4⟩)];rfl
def sta0:Sta:=(((0:Int),(((0:Int),((0:Int),(0:Int))),(((0:Int),((0:Int),(0:Int))),((0:Int),(0:Int))))),((0:Int),((0:Int),[])))
theorem g1n (n:Nat) (s:Sta):q0s (n+4) s=some (if Whole s then (s,0) else (sta0,2)):=by
 rw[x1u,q0c n s.1,obs,tfn,tfd,tfn,tfd];by_cases h:OkC s.1
 case neg=>rw[if_neg h,if_neg (show ¬((2:Int)=0) by decide),if_neg (fun k:Whole s=>h k.1)];rfl
 rw[if_pos h,if_pos rfl];by_cases h1:(s.2.2.2.length:Int)=s.1.2.2.2.1
 ·rw[if_pos h1,if_pos (show Whole s from ⟨h,h1⟩)]
 ·rw[if_neg h1,if_neg (fun k:Whole s=>h1 k.2)];rfl
theorem x1z (n:Nat) (t:Int):y0d (n+1) t=some (decide (t0z t)):=by
 rw[x1t,tfd];by_cases h:0≤t
 ·rw[if_pos h];exact congrArg some (decide_eq_decide.2 ⟨fun k=>⟨h,k⟩,fun k=>k.2⟩)
 ·rw[if_neg h,decide_eq_false (fun k:t0z t=>h k.1)]
theorem st_clock (n:Nat) (s:Sta):o0n (n+2) s=some (decide (Clock s)):=by
 rw[a1z,x1z n,x1z n,obs,obs];simp only[tfd];by_cases h:t0z s.2.1
 case neg=>rw[if_neg h,decide_eq_false (fun k:Clock s=>h k.1)]
 rw[if_pos h];by_cases h1:s.2.2.1 = -1
 ·rw[if_pos h1];exact congrArg some (decide_eq_decide.2 ⟨fun k=>⟨h,.inl h1,k⟩,fun k=>k.2.2⟩)
 rw[if_neg h1];by_cases h2:t0z s.2.2.1
 ·rw[if_pos h2];exact congrArg some (decide_eq_decide.2 ⟨fun k=>⟨h,.inr h2,k⟩,fun k=>k.2.2⟩)
 ·rw[if_neg h2,decide_eq_false (fun k:Clock s=>by rcases k.2.1 with q | q;exact h1 q;exact h2 q)]
def Wrong (s:Sta) (k:Nat):Prop:=∃x,s.2.2.2[k]? = some x∧¬u0a s k x
noncomputable instance (s k):Decidable (Wrong s k):=Classical.propDecidable _
theorem e0w (n:Nat) {s:Sta} (hw:StaW s):d0m (n+14) s=some (if StaOk s then 0 else 2):=by
 rw[t1m,g1n (n+9) s,obs,tfn,tfd];by_cases h:Whole s
 case neg=>rw[if_neg h,if_neg (show ¬((sta0,(2:Int)).2=0) by decide),if_neg (fun k:StaOk s=>h k.whole)]
 rw[if_pos h,if_pos rfl,st_clock (n+11) s,obs,tfn,tfd];by_cases h1:Clock s
 case neg=>rw[if_neg h1,if_neg (fun k:StaOk s=>h1 k.clock)]
 rw[if_pos h1];have hL:=h.len;have his:∀k:Nat,k<s.2.2.2.length→(fun y2:Int×Unit=>e0n (n+13) y2.1 s) ((k:Int),())=some (decide (Wrong s k)):=by
  intro k hk;have hy:s.2.2.2[k]? = some s.2.2.2[k]:=List.getElem?_eq_getElem hk;generalize s.2.2.2[k]=y at hy;show e0n (n+13) (k:Int) s=_;rw[k1d,st_right n hw h h1.1 hy,obs];by_cases q:u0a s k y
  ·rw[decide_eq_true q,decide_eq_false (fun z:Wrong s k=>by obtain ⟨x,x1,x2⟩:=z;rw[hy] at x1;cases x1;exact x2 q)];rfl
  ·rw[decide_eq_false q,decide_eq_true (show Wrong s k from ⟨y,hy,q⟩)];rfl
 rcases z0v (n+12) s (fun y2:Int×Unit=>e0n (n+13) y2.1 s) (fun k=>decide (Wrong s k)) (by omega) his with ⟨m,q1,q2,q3,q4⟩ | ⟨q1,q2⟩
 ·rw[show (fun y2:Int×Unit=>e0n (n+13) y2.1 (s,(0:Int)).1)=fun y2:Int×Unit=>e0n (n+13) y2.1 s from rfl];obtain ⟨x,x1,x2⟩:=of_decide_eq_true q2;rw[q4,obs,tfd,if_pos (by omega),if_neg (fun k:StaOk s=>x2 (k.right m x x1))]
 ·rw[show (fun y2:Int×Unit=>e0n (n+13) y2.1 (s,(0:Int)).1)=fun y2:Int×Unit=>e0n (n+13) y2.1 s from rfl];rw[q2,obs,tfd,if_neg (by decide),if_pos];refine ⟨h,h1,fun i x hx => ?_⟩;have:=of_decide_eq_false (q1 i (List.getElem?_eq_some_iff.1 hx).1);exact Decidable.byContradiction fun k=>this ⟨x,hx,k⟩
end Go.Proofs.YtojobamheigpbaaGreatDoor
namespace Go.Proofs.YtojobamheigpbaaGreatDoor
open Go.Flat Go.Plim
set_option linter.unusedVariables false
def u0b (c:Conf) (s:Trs) (o:Slo) (l:List Ev):Prop :=
 (l=[]∧o=s0∧∀t,FInv c s [] t)∨∃t,EndsAt l t∧FInv c s l t∧o=(t / c.2.1.1,cellOf (win c.2.1.1 l (t / c.2.1.1)))
theorem emp_inv {c:Conf} (h:OkC c):u0b c (emp c) s0 []:=by
 have hr:=h.rng;have n0:=hr.n0;have n1:=hr.n1;have n2:=hr.n2;refine .inl ⟨rfl,rfl,fun t => ?_⟩;have e:emp c=(List.replicate c.2.2.1.1.toNat s0,(List.replicate c.2.2.1.2.1.toNat s0,List.replicate c.2.2.1.2.2.toNat s0)):=if_pos h;have i0:TierInv (List.replicate c.2.2.1.1.toNat s0) c.2.1.1 []:=w0r (by omega) (by omega) hr.w0.1 hr.w0.2;have i1:TierInv (List.replicate c.2.2.1.2.1.toNat s0) c.2.1.2.1 []:=w0r (by omega) (by omega) hr.w1.1 hr.w1.2;have i2:TierInv (List.replicate c.2.2.1.2.2.toNat s0) c.2.1.2.2 []:=w0r (by omega) (by omega) hr.w2.1 hr.w2.2;rw[e]
 exact ⟨⟨h,by simp;omega,by simp;omega,by simp;omega,i0.ok,i1.ok,i2.ok⟩,i0,i1,i2⟩
theorem u0b.fold {c:Conf} {s:Trs} {o:Slo} {l:List Ev} (h:u0b c s o l):FoldOk c s:=by
 rcases h with ⟨_,_,h⟩ | ⟨t,_,h,_⟩
 ·exact (h 0).ok
 ·exact h.ok
theorem z0y {l:List Ev} {e:Ev} (h:Foll (l++[e])):EndsAt (l++[e]) e.1 :=
 ⟨h,fun x hx=>by
  rcases List.mem_append.1 hx with hx | hx
  ·have:=(b0b.1 h).2.2 x hx e (by simp);omega
  ·simp at hx;rw[hx];exact Int.le_refl _,⟨e,by simp,rfl⟩⟩
theorem v1x {e:Ev} (h:EvOk e) {w:Int} (hw:1≤w):h0u w (e.1 / w):=n1e hw ⟨h.t0,by have:=h.t1;omega⟩
def Turn (o:Slo) (i:Int):Prop:=0<o.2.1∧o.1≠i
theorem u1w {c:Conf} {s:Trs} {o:Slo} {l:List Ev} {e:Ev} (h:u0b c s o l) (hf:Foll (l++[e])) (ht:Turn o (e.1 / c.2.1.1)) :
  ∃s',l0a c s o (e.1 / c.2.1.1)=(s',0)∧mrgE z0 (b0w e)=(b0w e,0)∧u0b c s' (e.1 / c.2.1.1,b0w e) (l++[e]):=by
 rcases h with ⟨_,ho,_⟩ | ⟨t,he,hi,ho⟩
 ·have:=ht.1;rw[ho] at this;simp[s0,z0] at this
 have hr:=hi.ok.cok.rng;have hoe:=hf.ok e (by simp);have o1:o.1=t / c.2.1.1:=by rw[ho]
 have o2:o.2=cellOf (win c.2.1.1 l (t / c.2.1.1)):=by rw[ho]
 have hne:t / c.2.1.1≠e.1 / c.2.1.1:=by rw[←o1];exact ht.2
 obtain ⟨x,hx,hxt⟩:=he.last;have htu:t<e.1:=by have:=(b0b.1 hf).2.2 x hx e (by simp);omega
 obtain ⟨hfit,hfi⟩:=i2c hi he htu hne;have hle:t / c.2.1.1≤e.1 / c.2.1.1:=Int.ediv_le_ediv (by have:=hr.w0;omega) (by omega);refine ⟨_,?_,z1l (i0m hoe).ok,.inr ⟨e.1,z0y hf,v1u hfi,?_⟩⟩
 ·unfold l0a;rw[if_pos hi.ok,if_neg (fun k:o=s0=>by have:=ht.1;rw[k] at this;simp[s0,z0] at this),o1,o2,if_pos hfit,if_neg hne,if_pos ⟨hle,v1x hoe hr.w0.1⟩]
 ·rw[win_snoc,if_pos rfl];have:win c.2.1.1 l (e.1 / c.2.1.1)=[]:=by
   unfold win;rw[List.filter_eq_nil_iff];intro y hy;have:=he.wle hr.w0.1 y hy;simp;omega
  rw[this,List.nil_append,l0r]
theorem u1x {c:Conf} {s:Trs} {o:Slo} {l:List Ev} {e:Ev} (h:u0b c s o l) (hf:Foll (l++[e])) (ht:¬Turn o (e.1 / c.2.1.1)) :
  b0h o.2∧(mrgE o.2 (b0w e)).2=0∧u0b c s (e.1 / c.2.1.1,(mrgE o.2 (b0w e)).1) (l++[e]):=by
 have hoe:=hf.ok e (by simp);rcases h with ⟨hl,ho,hi⟩ | ⟨t,he,hi,ho⟩
 ·subst hl;have e2:o.2=z0:=by rw[ho];rfl
  rw[e2,z1l (i0m hoe).ok];refine ⟨p0t,rfl,.inr ⟨e.1,z0y hf,v1u (hi e.1),?_⟩⟩;rw[win_snoc,if_pos rfl];have:win c.2.1.1 [] (e.1 / c.2.1.1)=[]:=rfl;rw[this,List.nil_append,l0r]
 ·have hr:=hi.ok.cok.rng;have o1:o.1=t / c.2.1.1:=by rw[ho]
  have o2:o.2=cellOf (win c.2.1.1 l (t / c.2.1.1)):=by rw[ho]
  obtain ⟨hf0,_⟩:=i0a he hi.i0;have hw:t / c.2.1.1=e.1 / c.2.1.1:=by
   by_cases k:o.1=e.1 / c.2.1.1
   ·rw[←o1];exact k
   ·exact absurd ⟨by rw[o2];have:=hf0.n.n1;omega,k⟩ ht
  have hwf:Foll (win c.2.1.1 l (e.1 / c.2.1.1)++[e]):=by
   have:=x0r (w:=c.2.1.1) hf (e.1 / c.2.1.1)
   rwa [win_snoc,if_pos rfl] at this
  have hm:=(i1e (b0b.1 hwf).1 hoe).1 hwf;rw[o2,hw,hm];refine ⟨e0g (b0b.1 hwf).1,rfl,.inr ⟨e.1,z0y hf,o2c hi hw,?_⟩⟩;rw[win_snoc,if_pos rfl]
end Go.Proofs.YtojobamheigpbaaGreatDoor
namespace Go.Proofs.YtojobamheigpbaaGreatDoor
open Go.Flat Go.Plim
set_option linter.unusedVariables false
set_option linter.unusedSimpArgs false
def s0o (room:Int) (l:List Ev):Rw :=
 (if (l.length:Int)≤room then 0 else (l.length:Int)-room,(if (l.length:Int)≤room then 0 else ((l[l.length-room.toNat-1]?).getD e0).1,l.drop (l.length-room.toNat)))
theorem u1e {room:Int} (h:1≤room) (l:List Ev):((s0o room l).2.2.length:Int)=if (l.length:Int)≤room then (l.length:Int) else room:=by
 simp only[s0o,List.length_drop];split<;>omega
theorem g2f {room:Int} (h:1≤room) (l:List Ev) (e:Ev):k0m (s0o room l) room e=s0o room (l++[e]):=by
 have hlen:=u1e h l;unfold k0m;by_cases h1:(l.length:Int)<room
 ·rw[if_pos (Int.le_of_lt h1)] at hlen;rw[if_pos (by omega)];simp only[s0o,List.length_append,List.length_cons,List.length_nil];rw[if_pos (Int.le_of_lt h1),if_pos (Int.le_of_lt h1),if_pos (by omega),if_pos (by omega),show l.length-room.toNat=0 by omega,show l.length+(0+1)-room.toNat=0 by omega];rfl
 ·rw[if_neg (by rw[hlen];split<;>omega)];obtain ⟨d,hd⟩:∃d,d=l.length-room.toNat:=⟨_,rfl⟩;have hdl:d<l.length:=by omega
  have e1:(l++[e]).length-room.toNat=d+1:=by simp;omega
  have e2:¬(((l++[e]).length:Nat):Int)≤room:=by simp;omega
  unfold s0o;rw[if_neg e2,if_neg e2,e1,show d+1-1=d by omega,←hd,List.getElem?_append_left hdl,List.drop_append_of_le_length (by omega)];simp only[List.drop_drop,List.headD_eq_head?_getD,List.head?_drop];refine Prod.ext ?_ rfl;simp only[List.length_append,List.length_cons,List.length_nil];split<;>omega
theorem m1d {room:Int} (h:1≤room) (l:List Ev):(s0o room l).2.2.getLast? = l.getLast? := by
 simp only[s0o,List.getLast?_drop];by_cases h0:l=[]
 ·subst h0;simp
 ·have:0<l.length:=List.length_pos_iff.2 h0;rw[if_neg (by omega)]
theorem rawOf_ok {room:Int} (h:1≤room∧room≤4096) {l:List Ev} (hl:Foll l) (hL:l.length≤1000000):RawOk (s0o room l) room:=by
 have hlen:=u1e h.1 l;refine ⟨h.1,h.2,by rw[hlen];split<;>omega,?_,?_,?_,?_,?_⟩
 ·simp only[s0o];split<;>omega
 ·simp only[s0o];split<;>omega
 ·exact hl.sub (List.drop_sublist _ _)
 ·simp only[s0o];intro k;split
  ·rfl
  ·rename_i h1;rw[if_neg h1] at k;omega
 ·intro k;simp only[s0o] at k hlen ⊢;by_cases h1:(l.length:Int)≤room
  ·rw[if_pos h1] at k;exact absurd rfl k
  rw[if_neg h1] at hlen ⊢;obtain ⟨d,hd⟩:∃d,l.length-room.toNat=d+1:=⟨l.length-room.toNat-1,by omega⟩;rw[hd,show d+1-1=d by omega];have hdl:d<l.length:=by omega
  have hdl':d+1<l.length:=by omega
  rw[List.getElem?_eq_getElem hdl];refine ⟨by rw[←hlen,hd],((hl.ok _ (List.getElem_mem hdl)).t0),fun x hx => ?_⟩;rw[List.head?_drop,List.getElem?_eq_getElem hdl'] at hx;have:=List.pairwise_iff_getElem.1 hl.inc d (d+1) hdl hdl' (by omega);simp at hx;rw[←hx];exact this
structure SerInv (c:Conf) (s:Ser) (l:List Ev):Prop where
 lab:LabOk s.1
 len:l.length≤1000000
 raw:s.2.2.1=s0o c.1 l
 opn:u0b c s.2.2.2.1 s.2.2.2.2 l
 last:(l=[]∧s.2.1 = -1)∨EndsAt l s.2.1
theorem SerInv.foll {c:Conf} {s:Ser} {l:List Ev} (h:SerInv c s l):Foll l:=by
 rcases h.last with ⟨rfl,_⟩ | h
 ·exact Foll.nil
 ·exact h.foll
theorem o0g {l:List Ev} {t:Int} (h:EndsAt l t):∃e,l.getLast? = some e∧e.1=t:=by
 obtain ⟨x,hx,hxt⟩:=h.last;rcases List.eq_nil_or_concat l with rfl | ⟨p,y,rfl⟩
 ·cases hx
 rw[List.concat_eq_append] at *
 have h1:=h.le y (by simp);refine ⟨y,by simp,?_⟩;rcases List.mem_append.1 hx with q | q
 ·have:=(b0b.1 h.foll).2.2 x q y (by simp);omega
 ·simp at q;rw[←q];exact hxt
theorem o2q {l:List Ev} {t u:Int} (h:EndsAt l t) (k:EndsAt l u):t=u:=by
 obtain ⟨e,h1,h2⟩:=o0g h;obtain ⟨e',k1,k2⟩:=o0g k;rw[h1] at k1;simp at k1;rw[←h2,←k2,k1]
theorem o2r {l:List Ev} {t:Int} (h:EndsAt l t):l≠[]:=by
 obtain ⟨x,hx,_⟩:=h.last;exact List.ne_nil_of_mem hx
theorem SerInv.at_ {c:Conf} {s:Ser} {l:List Ev} (h:SerInv c s l) (hl:l≠[]):EndsAt l s.2.1∧FInv c s.2.2.2.1 l s.2.1∧s.2.2.2.2=(s.2.1 / c.2.1.1,cellOf (win c.2.1.1 l (s.2.1 / c.2.1.1))):=by
 have he:=h.last.resolve_left fun k=>hl k.1
 rcases h.opn with k | ⟨t,k1,k2,k3⟩
 ·exact absurd k.1 hl
 ·have:=o2q he k1;subst this;exact ⟨he,k2,k3⟩
theorem g1f {t:List Slo} {w:Int} (h:TierInv t w []):tall t=[]:=by
 cases hc:tall t with
 | nil=>rfl
 | cons x r =>
  have hx:x∈tall t:=by rw[hc];simp
  have h1:=h.cells x hx;have:=(i0b h.ok hx).1.n.n1;rw[h1] at this;simp[win,cellOf,z0] at this
theorem t0x {t:List Slo} {w u:Int} {l:List Ev} (h:TierInv t w (below w l u)) (hl:Foll l):a0s t (u / w):=by
 rw[t0o h.ok];intro x hx;have h1:=h.cells x hx;have hn:=(i0b h.ok hx).1.n;have hne:win w (below w l u) x.1≠[]:=fun k=>by
  rw[k] at h1;exact hn.ne h1
 obtain ⟨e,he⟩:=List.exists_mem_of_ne_nil _ hne;obtain ⟨k1,k2⟩:=b1p.1 he;have:=of_decide_eq_true (List.mem_filter.1 k1).2;omega
theorem w1o {w T:Int} {l:List Ev} (he:EndsAt l T):(cellOf (win w l (T / w))).2.2.1.1=T:=by
 obtain ⟨x,hx,hxt⟩:=he.last;have hm:x∈win w l (T / w):=b1p.2 ⟨hx,by rw[hxt]⟩;have hw:=x0r (w:=w) he.foll (T / w);have hh:=a1f hw (List.ne_nil_of_mem hm);have ew:EndsAt (win w l (T / w)) T:=⟨hw,fun y hy=>he.le y (b1p.1 hy).1,x,hm,hxt⟩;obtain ⟨e,k1,k2⟩:=o0g ew;have:=hh.last;rw[k1] at this;simp at this;rw[←this,k2]
theorem k0c {c:Conf} {s:Ser} {l:List Ev} (h:SerInv c s l):SerOk c s:=by
 have hf:=h.opn.fold;have hr:=hf.cok.rng;have hraw:RawOk s.2.2.1 c.1:=by rw[h.raw];exact rawOf_ok hr.raw h.foll h.len
 refine ⟨hf,h.lab,hraw,?_⟩;by_cases hl:l=[]
 ·subst hl;refine .inl ?_;have hlast:=h.last.resolve_right fun k=>o2r k rfl
  rcases h.opn with ⟨_,k1,k2⟩ | ⟨t,k1,_⟩
  ·have:=k2 0;exact ⟨hlast.2,by rw[h.raw];simp[s0o],k1,(i1a this.ok.t0).2 (g1f this.i0),(i1a this.ok.t1).2 (g1f this.i1),(i1a this.ok.t2).2 (g1f this.i2)⟩
  ·exact absurd rfl (o2r k1)
 ·obtain ⟨he,hi,ho⟩:=h.at_ hl;obtain ⟨x,hx,hxt⟩:=he.last;have:=(he.foll.ok x hx).t0;refine .inr ⟨by omega,?_,?_,?_,t0x hi.i0 he.foll,t0x hi.i1 he.foll,t0x hi.i2 he.foll⟩
  ·rw[h.raw,m1d hr.raw.1];exact o0g he
  ·rw[ho];exact w1o he
  ·rw[ho];exact (i0a he hi.i0).1
theorem serInv_w {c:Conf} {s:Ser} {l:List Ev} (h:SerInv c s l):SerW s:=by
 have hok:=k0c h;refine ⟨?_,fun e he=>EvW.of (hok.raw.f.ok e he),hok.fold.w,?_⟩
 ·by_cases hn:s.2.1 = -1
  ·rw[hn];unfold I64;omega
  ·have:=n0w hok hn;unfold I64;omega
 ·rcases h.opn with ⟨_,k,_⟩ | ⟨t,he,hi,ho⟩
  ·rw[k];exact b1a
  ·obtain ⟨x,hx,hxt⟩:=he.last;have hxo:=he.foll.ok x hx;have:=u1k hxo hi.ok.cok.rng.w0.1;rw[hxt] at this;rw[ho];exact ⟨by unfold I64;simp only;omega,.of (e0g (x0r he.foll _))⟩
theorem y1k {c:Conf} {s:Ser} {l:List Ev} {e:Ev} (h:SerInv c s l) (hf:Foll (l++[e])) (hL:l.length<1000000):∃s',putE c s e=(s',0)∧SerInv c s' (l++[e]):=by
 have hok:=k0c h;have hr:=hok.fold.cok.rng;have hoe:=hf.ok e (by simp);have hlt:s.2.1<e.1:=by
  rcases h.last with ⟨_,k⟩ | k
  ·have:=hoe.t0;omega
  ·obtain ⟨x,hx,hxt⟩:=k.last;have:=(b0b.1 hf).2.2 x hx e (by simp);omega
 have hraw:i0h s.2.2.1 c.1 e=(s0o c.1 (l++[e]),0):=by
  unfold i0h;rw[if_pos ⟨hok.raw,hoe⟩,if_pos,if_neg,h.raw,g2f hr.raw.1]
  ·rw[h.raw];intro k;have:=k.2;simp only[s0o] at this;split at this<;>omega
  ·intro q hq;rw[h.raw,m1d hr.raw.1] at hq;exact (b0b.1 hf).2.2 q (List.mem_of_getLast? hq) e (by simp)
 have hT:a1k s (e.1 / c.2.1.1)↔Turn s.2.2.2.2 (e.1 / c.2.1.1):=by
  unfold a1k Turn;have h0:0≤s.2.2.2.2.2.1:=by
   rcases h.opn with ⟨_,k,_⟩ | ⟨t,he,hi,ho⟩
   ·rw[k];decide
   ·rw[ho];exact (e0g (x0r he.foll _)).count.2
  refine ⟨fun ⟨k1,k2⟩=>⟨?_,k2⟩,fun ⟨k1,k2⟩=>⟨fun k => ?_,k2⟩⟩
  ·have:s.2.2.2.2.2.1≠0:=fun k=>k1 ((z0b hok).1 k)
   omega
  ·have:=(z0b hok).2 k;omega
 have hend:EndsAt (l++[e]) e.1:=z0y hf;have hlen:(l++[e]).length≤1000000:=by simp;omega
 unfold putE;rw[if_pos ⟨hok,hoe⟩,if_neg (by omega),hraw];by_cases ht:Turn s.2.2.2.2 (e.1 / c.2.1.1)
 ·obtain ⟨s',h1,h2,h3⟩:=u1w h.opn hf ht;have htd:turned c s (e.1 / c.2.1.1)=((s',s0),0):=by
   unfold turned;rw[if_pos (hT.2 ht),h1,if_pos rfl]
  have h2':mrgE s0.2 (b0w e)=(b0w e,0):=h2;rw[htd,if_neg (nn rfl),if_neg (nn rfl),h2',if_neg (nn rfl)];exact ⟨_,rfl,h.lab,hlen,rfl,h3,.inr hend⟩
 ·obtain ⟨h1,h2,h3⟩:=u1x h.opn hf ht;have htd:turned c s (e.1 / c.2.1.1)=((s.2.2.2.1,s.2.2.2.2),0):=by
   unfold turned;rw[if_neg (fun k=>ht (hT.1 k))]
  rw[htd,if_neg (nn rfl),if_neg (nn rfl),if_neg (nn h2)];exact ⟨_,rfl,h.lab,hlen,rfl,h3,.inr hend⟩
theorem m1k {t:List Slo} {w T i j:Int} {l:List Ev} (h:TierInv t w (below w l T)) (he:EndsAt l T) (h0:0≤i) (hi:i≤T / w) (hj:T / w≤j) (hk:T / w≤i+(t.length:Int)) :
  mrgE (tfold t i j).1 (cellOf (win w l (T / w)))=(cellOf (rng w l i (T / w+1)),0):=by
 have hw:=h.ok.w0;have hb:=n1i (w:=w) he.foll T;rw[n0s h hb h0 (by omega) (fun e hel=>by have:=of_decide_eq_true (List.mem_filter.1 hel).2;omega)];have e1:rng w (below w l T) i j=rng w l i (T / w):=by
  unfold rng below;rw[List.filter_filter];refine List.filter_congr fun e hel => ?_
  rw[Bool.eq_iff_iff];simp;omega
 have e2:win w l (T / w)=rng w l (T / w) (T / w+1):=j2g w l _;rw[e1,e2];have hs:=y0r hw he.foll (i:=i) (a:=T / w) (k:=T / w+1) hi (by omega);rw[hs];exact i1f (by rw[←hs];exact b2t he.foll _ _)
theorem l2b {w T i j:Int} {l:List Ev} (he:EndsAt l T) (hw:1≤w) (hj:T / w<j):rng w l i j=rng w l i (T / w+1):=by
 unfold rng;refine List.filter_congr fun e hel => ?_
 have:=he.wle hw e hel;rw[Bool.eq_iff_iff];simp;omega
theorem h1g {t:List Slo} {w T i j:Int} {l:List Ev} {ok:Prop} [Decidable ok] (hok:ok) (h:TierInv t w (below w l T)) (he:EndsAt l T) (h0:0≤i) (hij:i≤j) (hk:T / w<i+(t.length:Int)) :
  c0o ok i j T w t (cellOf (win w l (T / w)),0)=(cellOf (rng w l i j),0):=by
 have hw:=h.ok.w0;have hb:=n1i (w:=w) he.foll T;obtain ⟨x,hx,hxt⟩:=he.last;have hx0:=(he.foll.ok x hx).t0;unfold c0o;rw[if_pos hok,if_neg (by omega),if_neg (by omega),if_neg (by omega)];have hfold:=n0s h hb h0 hij (fun e hel=>by have:=of_decide_eq_true (List.mem_filter.1 hel).2;omega);by_cases h1:T / w<i
 ·rw[if_pos h1,hfold];have e1:rng w (below w l T) i j=[]:=t0d fun e hel=>by have:=of_decide_eq_true (List.mem_filter.1 hel).2;omega
  have e2:rng w l i j=[]:=t0d fun e hel=>by have:=he.wle hw e hel;omega
  rw[e1,e2]
 rw[if_neg h1];by_cases h2:j≤T / w
 ·rw[if_pos h2,hfold];have e1:rng w (below w l T) i j=rng w l i j:=by
   unfold rng below;rw[List.filter_filter];refine List.filter_congr fun e hel => ?_
   rw[Bool.eq_iff_iff];simp;omega
  rw[e1]
 rw[if_neg h2,if_neg (nn rfl),m1k h he h0 (by omega) (by omega) (by omega),l2b (j:=j) he hw (by omega)]
theorem g0d {a b:Int} (ha:1≤a) (hb:1≤b) (hm:b % a=0):0<b / a:=by
 rcases Int.lt_or_le 0 (b / a) with z | z
 ·exact z
 ·exfalso;have e:a*(b / a)=b:=by have:=Int.mul_ediv_add_emod b a;omega
  have:a*(b / a)≤a*0:=Int.mul_le_mul_of_nonneg_left z (by omega);omega
theorem l2t {t:List Slo} {a b T:Int} {l:List Ev} (h:TierInv t a (below a l T)) (he:EndsAt l T) (ha:1≤a) (hb:1≤b) (hm:b % a=0) (hd:b / a≤(t.length:Int)) :
  mrgE (tfold t (T / b*(b / a)) (T / a)).1 (cellOf (win a l (T / a)))=(cellOf (win b l (T / b)),0):=by
 obtain ⟨x,hx,hxt⟩:=he.last;have hx0:=(he.foll.ok x hx).t0;have hp:=g0d ha hb hm;have q:=(edvm (t:=T) ha hb hm).2;have hT:0≤T / b:=Int.ediv_nonneg (by omega) (by omega);have u1:T / a<T / b*(b / a)+b / a:=by
  rw[←q];have:=Int.lt_ediv_add_one_mul_self (T / a) hp;rw[Int.add_mul,Int.one_mul] at this;exact this
 have u0:T / b*(b / a)≤T / a:=by
  rw[←q];exact Int.ediv_mul_le _ (by omega)
 rw[m1k h he (Int.mul_nonneg hT (by omega)) u0 (Int.le_refl _) (by omega)];rw[←l2b (j:=(T / b+1)*(b / a)) he ha (by rw[Int.add_mul,Int.one_mul];exact u1),a1m ha hb hm]
theorem c2j {c:Conf} {s:Ser} {l:List Ev} (h:SerInv c s l) (hl:l≠[]):now1 c s=(cellOf (win c.2.1.2.1 l (s.2.1 / c.2.1.2.1)),0):=by
 obtain ⟨he,hi,ho⟩:=h.at_ hl;have hr:=hi.ok.cok.rng;unfold now1;rw[ho];exact l2t hi.i0 he hr.w0.1 hr.w1.1 hi.ok.cok.m1 (by rw[hi.ok.n0];exact hi.ok.cok.d1)
theorem now2_val {c:Conf} {s:Ser} {l:List Ev} (h:SerInv c s l) (hl:l≠[]):now2 c s=(cellOf (win c.2.1.2.2 l (s.2.1 / c.2.1.2.2)),0):=by
 obtain ⟨he,hi,ho⟩:=h.at_ hl;have hr:=hi.ok.cok.rng;unfold now2;rw[c2j h hl,if_neg (nn rfl)];exact l2t hi.i1 he hr.w1.1 hr.w2.1 hi.ok.cok.m2 (by rw[hi.ok.n1];exact hi.ok.cok.d2)
theorem h2m {c:Conf} {s:Ser} {l:List Ev} (h:SerInv c s l) (hl:l≠[]) {i j:Int} (h0:0≤i) (hij:i≤j) (hk:s.2.1 / c.2.1.1<i+c.2.2.1.1) :
  c0o (SerOk c s) i j s.2.1 c.2.1.1 s.2.2.2.1.1 (s.2.2.2.2.2,0)=(cellOf (rng c.2.1.1 l i j),0):=by
 obtain ⟨he,hi,ho⟩:=h.at_ hl;rw[ho];exact h1g (k0c h) hi.i0 he h0 hij (by rw[hi.ok.n0];exact hk)
theorem h2l {c:Conf} {s:Ser} {l:List Ev} (h:SerInv c s l) (hl:l≠[]) {i j:Int} (h0:0≤i) (hij:i≤j) (hk:s.2.1 / c.2.1.2.1<i+c.2.2.1.2.1) :
  c0o (SerOk c s) i j s.2.1 c.2.1.2.1 s.2.2.2.1.2.1 (now1 c s)=(cellOf (rng c.2.1.2.1 l i j),0):=by
 obtain ⟨he,hi,ho⟩:=h.at_ hl;rw[c2j h hl];exact h1g (k0c h) hi.i1 he h0 hij (by rw[hi.ok.n1];exact hk)
theorem h2k {c:Conf} {s:Ser} {l:List Ev} (h:SerInv c s l) (hl:l≠[]) {i j:Int} (h0:0≤i) (hij:i≤j) (hk:s.2.1 / c.2.1.2.2<i+c.2.2.1.2.2) :
  c0o (SerOk c s) i j s.2.1 c.2.1.2.2 s.2.2.2.1.2.2 (now2 c s)=(cellOf (rng c.2.1.2.2 l i j),0):=by
 obtain ⟨he,hi,ho⟩:=h.at_ hl;rw[now2_val h hl];exact h1g (k0c h) hi.i2 he h0 hij (by rw[hi.ok.n2];exact hk)
theorem p1w {c:Conf} {l:List Lab} (h:OkC c) (hl:LabOk l):SerInv c (l,(-1,(r0w,(emp c,s0)))) [] :=
 ⟨hl,by simp,by have:=h.rng.raw;simp[s0o,r0w];omega,emp_inv h,.inl ⟨rfl,rfl⟩⟩
noncomputable def i0l (s:Sta) (l:List Lab):Option Nat:=s.2.2.2.findIdx? fun x=>decide (x.1=l∧LvX s x)
noncomputable def w0w (s:Sta):Option Nat:=s.2.2.2.findIdx? fun x=>decide (¬LvX s x)
noncomputable def lvAt (s:Sta) (i:Nat):Bool:=match s.2.2.2[i]? with | some x=>decide (LvX s x) | none=>false
noncomputable def g0c (s:Sta):List Nat:=(List.range s.2.2.2.length).filter (lvAt s)
theorem f0d {s:Sta} {l:List Lab} {i:Nat}:i0l s l=some i↔∃x,s.2.2.2[i]? = some x∧x.1=l∧LvX s x∧∀j,j<i→∀y,s.2.2.2[j]? = some y→¬(y.1=l∧LvX s y):=by
 unfold i0l;rw[List.findIdx?_eq_some_iff_getElem];constructor
 ·rintro ⟨h,h1,h2⟩;have h1:=of_decide_eq_true h1;refine ⟨_,List.getElem?_eq_getElem h,h1.1,h1.2,fun j hj y hy => ?_⟩;obtain ⟨hjl,e⟩:=List.getElem?_eq_some_iff.1 hy;have:=h2 j hj;rw[e] at this
  simpa using this
 ·rintro ⟨x,hx,h1,h2,h3⟩;obtain ⟨hl,e⟩:=List.getElem?_eq_some_iff.1 hx;refine ⟨hl,by rw[e];exact decide_eq_true ⟨h1,h2⟩,fun j hj => ?_⟩;have:=h3 j hj _ (List.getElem?_eq_getElem (by omega))
  simpa using this
theorem h0o {s:Sta} {l:List Lab}:i0l s l=none↔∀x∈s.2.2.2,¬(x.1=l∧LvX s x):=by
 unfold i0l;rw[List.findIdx?_eq_none_iff];simp
theorem p0n {s:Sta} {i:Nat}:w0w s=some i↔∃x,s.2.2.2[i]? = some x∧¬LvX s x∧∀j,j<i→∀y,s.2.2.2[j]? = some y→LvX s y:=by
 unfold w0w;rw[List.findIdx?_eq_some_iff_getElem];constructor
 ·rintro ⟨h,h1,h2⟩;refine ⟨_,List.getElem?_eq_getElem h,of_decide_eq_true h1,fun j hj y hy => ?_⟩;obtain ⟨hjl,e⟩:=List.getElem?_eq_some_iff.1 hy;have:=h2 j hj;rw[e] at this
  simpa using this
 ·rintro ⟨x,hx,h1,h3⟩;obtain ⟨hl,e⟩:=List.getElem?_eq_some_iff.1 hx;refine ⟨hl,by rw[e];exact decide_eq_true h1,fun j hj => ?_⟩;have:=h3 j hj _ (List.getElem?_eq_getElem (by omega))
  simpa using this
theorem f2y {s:Sta}:w0w s=none↔∀x∈s.2.2.2,LvX s x:=by
 unfold w0w;rw[List.findIdx?_eq_none_iff];simp
theorem i1j {s:Sta} {i:Nat} {x:Ser} (h:s.2.2.2[i]? = some x):lvAt s i=decide (LvX s x):=by
 unfold lvAt;rw[h]
theorem i1v {s:Sta} (h:StaOk s) {i:Nat} {x:Ser} (hx:s.2.2.2[i]? = some x) (hl:LvX s x):i0l s x.1=some i:=by
 refine f0d.2 ⟨x,hx,rfl,hl,fun j hj y hy hn => ?_⟩;rcases h.right i x hx with k | k
 ·exact hl.1 k
 ·exact k.2.2.2 ⟨hl,j,hj,y,hy,hn.2,hn.1⟩
theorem q1e (s:Sta):(g0c s).length≤s.2.2.2.length:=by
 have:=List.length_filter_le (lvAt s) (List.range s.2.2.2.length)
 simpa [g0c] using this
noncomputable def e0a (s:Sta) (l:List Lab) (e:Ev):Int×(Bool×Int) :=
 if ¬StaOk s then (0,(false,2)) else if ¬LabOk l then (0,(false,8)) else if ¬EvOk e then (0,(false,2)) else
 if e.1<mk s∨mk s+s.1.2.1.1≤e.1 then (0,(false,9)) else
 match i0l s l with
 | some i=>if e.1≤((s.2.2.2[i]?).getD ser0).2.1 then (0,(false,9)) else ((i:Int),(false,0))
 | none=>if e.2.2.2=true then (0,(false,3)) else match w0w s with | some i=>((i:Int),(true,0)) | none=>(0,(false,7))
end Go.Proofs.YtojobamheigpbaaGreatDoor
namespace Go.Proofs.YtojobamheigpbaaGreatDoor
open Go.Flat
def rd (st:List UInt8×Bool) (k:Nat):Int×(List UInt8×Bool):=if st.2=true∨st.1.length<k then (0,([],true)) else (valI (k0j (st.1.take k)),(st.1.drop k,false))
def q0 (s:List UInt8):=rd (s,false) 4
def q1 (s:List UInt8):=rd (q0 s).2 8
def q2 (s:List UInt8):=rd (q1 s).2 8
def q3 (s:List UInt8):=rd (q2 s).2 8
def q4 (s:List UInt8):=rd (q3 s).2 4
def q5 (s:List UInt8):=rd (q4 s).2 4
def q6 (s:List UInt8):=rd (q5 s).2 4
def q7 (s:List UInt8):=rd (q6 s).2 4
def q8 (s:List UInt8):=rd (q7 s).2 4
def q9 (s:List UInt8):=rd (q8 s).2 8
structure Full (s:List UInt8):Prop where
 z:(q9 s).1=0
 good:(q9 s).2.2=false
 left:(q9 s).2.1=[]
def idxC (c:Conf):Int:=prt c.2.2.2.2 120
def hom (c:Conf):Int:=1+idxC c+c.2.2.2.2
def siz (c:Conf):Int:=hom c+1+c.2.2.2.1*plc c
theorem idx_range {c:Conf} (h:Rng c):0≤idxC c∧idxC c≤8192:=by
 have:=i0i (x:=c.2.2.2.2) (e:=120) (by omega) (by have:=h.log;omega);have:=h.log;unfold idxC;omega
theorem siz_wrap {c:Conf} (h:OkC c):IntKind.wrap .i64 (IntKind.wrap .i64 (hom c+1)+IntKind.wrap .i64 (c.2.2.2.1*plc c))=siz c∧0≤siz c∧siz c≤2000000000:=by
 have hl:=h.rng.log;have hi:=idx_range h.rng;have hp:=l2h h.rng;have hcap:=h.rng.cap;have h1:0≤c.2.2.2.1*plc c:=Int.mul_nonneg (by omega) (by omega);have h2:c.2.2.2.1*plc c≤65536*plc c:=Int.mul_le_mul_of_nonneg_right (by omega) (by omega);have hh:hom c=1+idxC c+c.2.2.2.2:=rfl;rw[w64 (x:=hom c+1) (by omega) (by omega),w64 (x:=c.2.2.2.1*plc c) (by omega) (by omega),w64 (by omega) (by omega)];have hs:siz c=hom c+1+c.2.2.2.1*plc c:=rfl;omega
def sizR (c:Conf):Int×Int:=if 16777216<siz c then (0,1) else (siz c,0)
end Go.Proofs.YtojobamheigpbaaGreatDoor
namespace Go.Proofs.YtojobamheigpbaaGreatDoor
open Go.Flat Go.Plim
set_option linter.unusedVariables false
set_option linter.unusedSimpArgs false
theorem w1b {l:List Ser} {k:Nat} (h:k<l.length):∃y,l[k]? = some y:=⟨l[k],List.getElem?_eq_getElem h⟩
noncomputable def i2e (s:Sta) (l:List Lab):Int×Int:=if Whole s then (match i0l s l with | some i=>((i:Int),0) | none=>(0,3)) else (0,2)
noncomputable def g2b (s:Sta):Int×Int:=if Whole s then (match w0w s with | some i=>((i:Int),0) | none=>(0,7)) else (0,2)
noncomputable def z1s (s:Sta):List Int:=if Whole s then (g0c s).map Int.ofNat else []
def IsF (s:Sta) (l:List Lab) (k:Nat):Prop:=∃y,s.2.2.2[k]? = some y∧y.1=l∧LvX s y
noncomputable instance (s l k):Decidable (IsF s l k):=Classical.propDecidable _
def IsR (s:Sta) (k:Nat):Prop:=∃y,s.2.2.2[k]? = some y∧¬LvX s y
noncomputable instance (s k):Decidable (IsR s k):=Classical.propDecidable _
theorem i2d {s:Sta} {l:List Lab} {m:Nat} (h:IsF s l m) (hn:∀j,j<m→¬IsF s l j):i0l s l=some m:=by
 obtain ⟨y,h1,h2,h3⟩:=h;exact f0d.2 ⟨y,h1,h2,h3,fun j hj z hz k=>hn j hj ⟨z,hz,k.1,k.2⟩⟩
theorem find_no {s:Sta} {l:List Lab} (hn:∀j,j<s.2.2.2.length→¬IsF s l j):i0l s l=none:=by
 refine h0o.2 fun x hx k => ?_
 obtain ⟨i,hi,e⟩:=List.getElem_of_mem hx;exact hn i hi ⟨x,by rw[List.getElem?_eq_getElem hi,e],k.1,k.2⟩
theorem f2x {s:Sta} {m:Nat} (h:IsR s m) (hn:∀j,j<m→¬IsR s j):w0w s=some m:=by
 obtain ⟨y,h1,h2⟩:=h;exact p0n.2 ⟨y,h1,h2,fun j hj z hz=>Decidable.byContradiction fun k=>hn j hj ⟨z,hz,k⟩⟩
theorem room_no {s:Sta} (hn:∀j,j<s.2.2.2.length→¬IsR s j):w0w s=none:=by
 refine f2y.2 fun x hx=>Decidable.byContradiction fun k => ?_
 obtain ⟨i,hi,e⟩:=List.getElem_of_mem hx;exact hn i hi ⟨x,by rw[List.getElem?_eq_getElem hi,e],k⟩
theorem b2q (n:Nat) {s:Sta} (hw:StaW s) (l:List Lab):e1u (n+10) s l=some (i2e s l):=by
 rw[x1y,g1n (n+5) s,obs,tfn,tfd];unfold i2e;by_cases h:Whole s
 case neg=>rw[if_neg h,if_neg h,if_neg (show ¬((sta0,(2:Int)).2=0) by decide)]
 rw[if_pos h,if_pos h,if_pos rfl];have his:∀k:Nat,k<s.2.2.2.length→(fun y1:Int×Unit=>f0w (n+9) y1.1 s l s) ((k:Int),())=some (decide (IsF s l k)):=by
  intro k hk;obtain ⟨y,hy⟩:=w1b hk;have hm:=(hw.at hy).2;show f0w (n+9) (k:Int) s l s=_;rw[o1n,e1p hy,obs,m1t (n+6) _ _ hm.l,obs,tfd,y0g (n+1) hy hm,obs];by_cases h1:y.1=l
  ·rw[if_pos h1];refine congrArg some (decide_eq_decide.2 ⟨fun k=>⟨y,hy,h1,k⟩,fun ⟨z,z1,z2,z3⟩ => ?_⟩);rw[hy] at z1;cases z1;exact z3
  ·rw[if_neg h1,decide_eq_false (fun q:IsF s l k=>by obtain ⟨z,z1,z2,z3⟩:=q;rw[hy] at z1;cases z1;exact h1 z2)]
 rcases z0v (n+8) s (fun y1:Int×Unit=>f0w (n+9) y1.1 s l s) (fun k=>decide (IsF s l k)) (by have:=h.len;omega) his with ⟨m,q1,q2,q3,q4⟩ | ⟨q1,q2⟩
 ·rw[show (fun y1:Int×Unit=>f0w (n+9) y1.1 s l (s,(0:Int)).1)=fun y1:Int×Unit=>f0w (n+9) y1.1 s l s from rfl,q4,obs,tfd,if_neg (by omega),i2d (of_decide_eq_true q2) (fun j hj=>of_decide_eq_false (q3 j hj))]
 ·rw[show (fun y1:Int×Unit=>f0w (n+9) y1.1 s l (s,(0:Int)).1)=fun y1:Int×Unit=>f0w (n+9) y1.1 s l s from rfl,q2,obs,tfd,if_pos (by decide),find_no (fun j hj=>of_decide_eq_false (q1 j hj))]
theorem stt_room (n:Nat) {s:Sta} (hw:StaW s):e1t (n+10) s=some (g2b s):=by
 rw[x1v,g1n (n+5) s,obs,tfn,tfd];unfold g2b;by_cases h:Whole s
 case neg=>rw[if_neg h,if_neg h,if_neg (show ¬((sta0,(2:Int)).2=0) by decide)]
 rw[if_pos h,if_pos h,if_pos rfl];have his:∀k:Nat,k<s.2.2.2.length→(fun y1:Int×Unit=>f0v (n+9) y1.1 s) ((k:Int),())=some (decide (IsR s k)):=by
  intro k hk;obtain ⟨y,hy⟩:=w1b hk;have hm:=(hw.at hy).2;show f0v (n+9) (k:Int) s=_;rw[o1l,y0g (n+1) hy hm,obs];by_cases h1:LvX s y
  ·rw[decide_eq_true h1,decide_eq_false (fun q:IsR s k=>by obtain ⟨z,z1,z2⟩:=q;rw[hy] at z1;cases z1;exact z2 h1)];rfl
  ·rw[decide_eq_false h1,decide_eq_true (show IsR s k from ⟨y,hy,h1⟩)];rfl
 rcases z0v (n+8) s (fun y1:Int×Unit=>f0v (n+9) y1.1 s) (fun k=>decide (IsR s k)) (by have:=h.len;omega) his with ⟨m,q1,q2,q3,q4⟩ | ⟨q1,q2⟩
 ·rw[show (fun y1:Int×Unit=>f0v (n+9) y1.1 (s,(0:Int)).1)=fun y1:Int×Unit=>f0v (n+9) y1.1 s from rfl,q4,obs,tfd,if_neg (by omega),f2x (of_decide_eq_true q2) (fun j hj=>of_decide_eq_false (q3 j hj))]
 ·rw[show (fun y1:Int×Unit=>f0v (n+9) y1.1 (s,(0:Int)).1)=fun y1:Int×Unit=>f0v (n+9) y1.1 s from rfl,q2,obs,tfd,if_pos (by decide),room_no (fun j hj=>of_decide_eq_false (q1 j hj))]
theorem lvAt_el {s:Sta} {k:Nat} {y:Ser} (h:s.2.2.2[k]? = some y):decide (LvX s y)=lvAt s k:=(i1j h).symm
theorem f2g (n:Nat) {s:Sta} (hw:StaW s) (hL:s.2.2.2.length≤1000000):∀(d k f:Nat) (out:List Int),k+d=s.2.2.2.length→d<f→out.length≤k →
  j0a (n+7) f (s,out,(s.2.2.2.length:Int),(k:Int),())=some (.inl (out++((List.range' k d).filter (lvAt s)).map Int.ofNat,())):=by
 intro d;induction d with
 | zero =>
  intro k f out hk hf ho;obtain ⟨f,rfl⟩:∃g,f=g+1:=⟨f-1,by omega⟩;rw[v0z,decide_eq_false (by omega),tff];simp
 | succ d ih =>
  intro k f out hk hf ho;obtain ⟨f,rfl⟩:∃g,f=g+1:=⟨f-1,by omega⟩;obtain ⟨y,hy⟩:=w1b (l:=s.2.2.2) (k:=k) (by omega);rw[v0z,decide_eq_true (by omega),tft,y0g n hy (hw.at hy).2,obs,lvAt_el hy,w64 (by omega) (by omega),show ((k:Int)+1)=((k+1:Nat):Int) by omega,List.range'_succ];cases h:lvAt s k
  ·rw[tff,ih (k+1) f out (by omega) (by omega) (by omega),List.filter_cons_of_neg (by simp[h])]
  ·rw[tft,decide_eq_true (by omega),tft,ih (k+1) f _ (by omega) (by omega) (by simp;omega),List.filter_cons_of_pos h];simp
theorem o1k (n:Nat) {s:Sta} (hw:StaW s):y0f (n+8) s=some (z1s s):=by
 rw[x1x,g1n (n+3) s,obs,tfn,tfd];unfold z1s;by_cases h:Whole s
 case neg=>rw[if_neg h,if_neg h,if_neg (show ¬((sta0,(2:Int)).2=0) by decide)]
 rw[if_pos h,if_pos h,if_pos rfl];have hL:=h.len;have e:j0a (n+7) a0b (s,([]:List Int),(s.2.2.2.length:Int),(0:Int),())=_:=f2g n hw (by omega) s.2.2.2.length 0 a0b [] (by omega) (by unfold a0b;omega) (by simp);simp only;rw[e,obs,a0w];unfold g0c;rw[List.range_eq_range'];rfl
theorem z1r (s:Sta):(z1s s).length≤65536:=by
 unfold z1s;split
 ·rename_i h;have:=h.len;have:=q1e s;simp;omega
 ·simp
theorem m2n {s:Sta} {k:Nat} (h:lvAt s k=true):k<s.2.2.2.length:=by
 unfold lvAt at h;cases hx:s.2.2.2[k]? with
 | none=>rw[hx] at h;cases h
 | some x=>exact (List.getElem?_eq_some_iff.1 hx).1
noncomputable def markV (s:Sta):Int:=if Whole s∧t0z s.2.1 then mk s else 0
theorem stt_mark (n:Nat) (s:Sta):o1m (n+5) s=some (markV s):=by
 rw[x1w,g1n n s,obs,tfn,tfd,x1z (n+3),obs,tfn,tfd];unfold markV;by_cases h:Whole s
 case neg=>rw[if_neg h,if_neg (show ¬((sta0,(2:Int)).2=0) by decide),if_neg (fun k=>h k.1)]
 rw[if_pos h,if_pos rfl];by_cases h1:t0z s.2.1
 case neg=>rw[if_neg h1,if_neg (fun k=>h1 k.2)]
 rw[if_pos h1,if_pos ⟨h,h1⟩,k2l (n+3) h1 h.1.rng.w0];rfl
noncomputable def l0e (c:Conf):Sta×Int:=if OkC c then (if (sizR c).2=0 then ((c,(0,(-1,List.replicate c.2.2.2.1.toNat ser0))),0) else (sta0,(sizR c).2)) else (sta0,2)
theorem cap_test {c:Conf} (h:OkC c):((decide ((0:Int)≤c.2.2.2.1))&&((decide (c.2.2.2.1≤c.2.2.2.1))&&(decide ((c.2.2.2.1*(264:Int))≤(140737488355328:Int)))))=true:=by
 have:=h.rng.cap;rw[decide_eq_true (by omega),decide_eq_true (by omega),decide_eq_true (by omega)];rfl
theorem k2k:StaW sta0:=⟨by simp[sta0],by simp[sta0]⟩
theorem ser0_w:SerW ser0:=by
 refine ⟨?_,?_,⟨?_,?_,?_⟩,b1a⟩
 ·unfold I64;simp[ser0]
 ·intro e he;simp[ser0,r0w] at he
 ·intro x hx;simp[ser0] at hx
 ·intro x hx;simp[ser0] at hx
 ·intro x hx;simp[ser0] at hx
theorem newSt_w (c:Conf):StaW (l0e c).1:=by
 unfold l0e;split
 ·rename_i h;split
  ·have:=h.rng.cap;exact ⟨by simp;omega,fun x hx=>by rw[List.eq_of_mem_replicate hx];exact ⟨ser0_w,ser0_m⟩⟩
  ·exact k2k
 ·exact k2k
theorem newSt_ok {c:Conf} (h:(l0e c).2=0):StaOk (l0e c).1∧g0c (l0e c).1=[]:=by
 unfold l0e at h ⊢;by_cases h1:OkC c
 case neg=>rw[if_neg h1] at h;cases h
 rw[if_pos h1] at h ⊢;by_cases h2:(sizR c).2=0
 case neg=>rw[if_neg h2] at h;exact absurd h h2
 rw[if_pos h2];have hcap:=h1.rng.cap;have all:∀(i:Nat) x,(List.replicate c.2.2.2.1.toNat ser0)[i]? = some x→x=ser0:=fun i x hx=>List.eq_of_mem_replicate (List.mem_of_getElem? hx)
 refine ⟨⟨⟨h1,by simp;omega⟩,⟨⟨by simp,by simp⟩,.inl rfl,by simp⟩,fun i x hx => .inl (all i x hx)⟩,?_⟩;unfold g0c;rw[List.filter_eq_nil_iff];intro i hi hl;obtain ⟨y,hy⟩:=w1b (List.mem_range.1 hi);rw[i1j hy] at hl;exact (of_decide_eq_true hl).1 (all i y hy)
theorem f0g {l:List Slo} {a b:Int} (h:a0s l a) (hab:a≤b):a0s l b:=fun s hs hc=>by
 have:=h s hs hc;omega
theorem p1x {l:List Slo} {b i:Int} {x:Cel} (h:a0s l b) (hi:i<b):a0s (tput l i x) b:=by
 intro s hs hc;rcases List.mem_or_eq_of_mem_set hs with k | k
 ·exact h s k hc
 ·rw[k];exact hi
theorem r1l {a b w:Int} (hw:1≤w) (hab:a≤b) (h:a / w≠b / w):a / w<b / w:=by
 have:a / w≤b / w:=Int.ediv_le_ediv (by omega) hab;omega
theorem nb_upw {c:Conf} (hc:OkC c) {s:Trs} {T U:Int} (hTU:T≤U) (h0:a0s s.1 (U / c.2.1.1)) (h1:a0s s.2.1 (T / c.2.1.2.1)) (h2:a0s s.2.2 (T / c.2.1.2.2)) :
  a0s (upw c s (T / c.2.1.1) (U / c.2.1.1)).1 (U / c.2.1.1)∧a0s (upw c s (T / c.2.1.1) (U / c.2.1.1)).2.1 (U / c.2.1.2.1)∧a0s (upw c s (T / c.2.1.1) (U / c.2.1.1)).2.2 (U / c.2.1.2.2):=by
 have hr:=hc.rng;have q1:=(edvm (t:=T) hr.w0.1 hr.w1.1 hc.m1).1;have q1u:=(edvm (t:=U) hr.w0.1 hr.w1.1 hc.m1).1;have q2:=(edvm (t:=T) hr.w0.1 hr.w2.1 hc.m02).1;have q2u:=(edvm (t:=U) hr.w0.1 hr.w2.1 hc.m02).1;have m1:T / c.2.1.2.1≤U / c.2.1.2.1:=Int.ediv_le_ediv (by have:=hr.w1;omega) hTU;have m2:T / c.2.1.2.2≤U / c.2.1.2.2:=Int.ediv_le_ediv (by have:=hr.w2;omega) hTU;have u1:a0s (up1 c s (T / c.2.1.1) (U / c.2.1.1)).1 (U / c.2.1.1)∧a0s (up1 c s (T / c.2.1.1) (U / c.2.1.1)).2.1 (U / c.2.1.2.1)∧a0s (up1 c s (T / c.2.1.1) (U / c.2.1.1)).2.2 (T / c.2.1.2.2):=by
  unfold up1;rw[q1,q1u];split
  ·exact ⟨h0,f0g h1 m1,h2⟩
  ·rename_i hne;split
   ·exact ⟨h0,p1x (f0g h1 m1) (by omega),h2⟩
   ·exact ⟨h0,f0g h1 m1,h2⟩
 unfold upw;generalize up1 c s (T / c.2.1.1) (U / c.2.1.1)=v at u1;unfold up2;rw[q2,q2u];split
 ·exact ⟨u1.1,u1.2.1,f0g u1.2.2 m2⟩
 ·rename_i hne;split
  ·exact ⟨u1.1,u1.2.1,p1x (f0g u1.2.2 m2) (by omega)⟩
  ·exact ⟨u1.1,u1.2.1,f0g u1.2.2 m2⟩
theorem g2g {r:Rw} {room:Int} {e:Ev} (h:RawOk r room) (he:EvOk e) (ha:After r.2.2 e) (hl:¬((r.2.2.length:Int)=room∧r.1=70368744177664)):RawOk (k0m r room e) room∧(k0m r room e).2.2.getLast? = some e:=by
 have hf:Foll (r.2.2++[e]):=by
  refine b0b.2 ⟨h.f,⟨by simp[he],by simp⟩,fun x hx y hy => ?_⟩;simp at hy;subst hy;have hn:r.2.2≠[]:=List.ne_nil_of_mem hx;have hg:=List.getLast?_eq_some_getLast hn;have:=ha _ hg;rcases List.eq_nil_or_concat r.2.2 with k | ⟨p,z,k⟩
  ·exact absurd k hn
  ·rw[List.concat_eq_append] at k;have hz:r.2.2.getLast hn=z:=by simp[k]
   rw[hz] at this;rw[k] at hx;rcases List.mem_append.1 hx with q | q
   ·have hf:=h.f;rw[k] at hf;have:=(b0b.1 hf).2.2 x q z (by simp);omega
   ·simp at q;rw[q];exact this
 unfold k0m;by_cases h1:(r.2.2.length:Int)<room
 ·rw[if_pos h1];refine ⟨⟨h.m0,h.m1,by simp;omega,h.l0,h.l1,hf,h.z,fun k => ?_⟩,by simp⟩;have:=(h.p k).1;omega
 ·rw[if_neg h1];have hlen:=h.len;have hlen':(r.2.2.length:Int)=room:=by omega
  have m0:=h.m0;cases hc:r.2.2 with
  | nil=>rw[hc] at hlen';simp at hlen';omega
  | cons a t =>
   rw[hc] at hf hlen';have hfa:=n2t.1 hf;simp only[List.drop_succ_cons,List.drop_zero,List.headD_cons];refine ⟨⟨h.m0,h.m1,by simp at hlen' ⊢;omega,by have:=h.l0;simp only;omega,?_,hfa.2.2,fun k => ?_,fun _=>⟨by simp at hlen' ⊢;omega,hfa.1.t0,fun x hx => ?_⟩⟩,by simp⟩
   ·have:=h.l1;have:r.1≠70368744177664:=fun k=>hl ⟨by rw[hc];exact hlen',k⟩
    simp only;omega
   ·have:=h.l0;simp only at k;omega
   ·exact hfa.2.1 x (List.mem_of_mem_head? hx)
theorem mrg_fits {a:Cel} {e:Ev} {w i:Int} (h:FitsP a w i) (he:EvOk e) (hlt:a.2.2.1.1<e.1) (hi:e.1 / w=i):FitsP (mrg a (b0w e)) w i:=by
 have hm:=i1d h.n (i0m he);refine ⟨g2v h.n (i0m he) hlt,h.w0,h.w1,?_,?_⟩
 ·rw[hm];exact h.f
 ·rw[hm];exact hi
theorem m0o {c:Conf} {s t:Ser} {e:Ev} (h:SerOk c s) (hp:putE c s e=(t,0)):SerOk c t∧EvOk e∧s.2.1<e.1∧t.2.1=e.1∧t.1=s.1:=by
 have hr:=h.fold.cok.rng;unfold putE at hp;by_cases h1:SerOk c s∧EvOk e
 case neg=>rw[if_neg h1] at hp;cases hp
 rw[if_pos h1] at hp;have he:=h1.2;by_cases h2:e.1≤s.2.1
 ·rw[if_pos h2] at hp;cases hp
 rw[if_neg h2] at hp;by_cases h3:(turned c s (e.1 / c.2.1.1)).2≠0
 ·rw[if_pos h3] at hp;exact absurd (congrArg Prod.snd hp) h3
 rw[if_neg h3] at hp;by_cases h4:(i0h s.2.2.1 c.1 e).2≠0
 ·rw[if_pos h4] at hp;exact absurd (congrArg Prod.snd hp) h4
 rw[if_neg h4] at hp;by_cases h5:(mrgE (turned c s (e.1 / c.2.1.1)).1.2.2 (b0w e)).2≠0
 ·rw[if_pos h5] at hp;exact absurd (congrArg Prod.snd hp) h5
 rw[if_neg h5] at hp;have hp:=(Prod.ext_iff.1 hp).1;simp only at hp;subst hp;refine ⟨?_,he,by omega,rfl,rfl⟩;have h3:(turned c s (e.1 / c.2.1.1)).2=0:=Decidable.byContradiction h3;have h4:(i0h s.2.2.1 c.1 e).2=0:=Decidable.byContradiction h4;have h5:(mrgE (turned c s (e.1 / c.2.1.1)).1.2.2 (b0w e)).2=0:=Decidable.byContradiction h5;have e0:0≤e.1:=he.t0;have hraw:RawOk (i0h s.2.2.1 c.1 e).1 c.1∧(i0h s.2.2.1 c.1 e).1.2.2.getLast? = some e:=by
  unfold i0h at h4 ⊢;rw[if_pos ⟨h.raw,he⟩] at h4 ⊢;by_cases k1:After s.2.2.1.2.2 e
  case neg=>rw[if_neg k1] at h4;cases h4
  rw[if_pos k1] at h4 ⊢;by_cases k2:(s.2.2.1.2.2.length:Int)=c.1∧s.2.2.1.1=70368744177664
  ·rw[if_pos k2] at h4;cases h4
  rw[if_neg k2] at h4 ⊢;exact g2g h.raw he k1 k2
 have key:FoldOk c (turned c s (e.1 / c.2.1.1)).1.1∧a0s (turned c s (e.1 / c.2.1.1)).1.1.1 (e.1 / c.2.1.1)∧a0s (turned c s (e.1 / c.2.1.1)).1.1.2.1 (e.1 / c.2.1.2.1)∧a0s (turned c s (e.1 / c.2.1.1)).1.1.2.2 (e.1 / c.2.1.2.2) ∧
   FitsP (mrgE (turned c s (e.1 / c.2.1.1)).1.2.2 (b0w e)).1 c.2.1.1 (e.1 / c.2.1.1)∧(mrgE (turned c s (e.1 / c.2.1.1)).1.2.2 (b0w e)).1.2.2.1.1=e.1:=by
  have fresh1:FitsP (b0w e) c.2.1.1 (e.1 / c.2.1.1):=⟨i0m he,hr.w0.1,hr.w0.2,rfl,rfl⟩;have z1:mrgE s0.2 (b0w e)=(b0w e,0):=z1l (i0m he).ok;rcases h.st with ⟨l1,hf⟩ | ⟨l1,hd⟩
  ·have ht:turned c s (e.1 / c.2.1.1)=((s.2.2.2.1,s.2.2.2.2),0):=by
    unfold turned;rw[if_neg (fun k:a1k s _=>k.1 hf.opn)]
   rw[ht];simp only;rw[hf.opn,z1];exact ⟨h.fold,f0g hf.b0 (Int.ediv_nonneg e0 (by have:=hr.w0;omega)),f0g hf.b1 (Int.ediv_nonneg e0 (by have:=hr.w1;omega)),f0g hf.b2 (Int.ediv_nonneg e0 (by have:=hr.w2;omega)),fresh1,rfl⟩
  ·have hT:s.2.1≤e.1:=by omega
   have ho:s.2.2.2.2.1=s.2.1 / c.2.1.1:=by rw[←hd.fit.l,hd.ol]
   by_cases hts:a1k s (e.1 / c.2.1.1)
   ·have hlt:s.2.1 / c.2.1.1<e.1 / c.2.1.1:=r1l hr.w0.1 hT (by rw[←ho];exact hts.2);have hcl:l0a c s.2.2.2.1 s.2.2.2.2 (e.1 / c.2.1.1)=(upw c (tput s.2.2.2.1.1 s.2.2.2.2.1 s.2.2.2.2.2,s.2.2.2.1.2) (s.2.1 / c.2.1.1) (e.1 / c.2.1.1),0):=by
     unfold l0a;rw[if_pos h.fold,if_neg hts.1,if_pos hd.fit,if_neg hts.2,if_pos ⟨by omega,v1x he hr.w0.1⟩,ho]
    have ht:turned c s (e.1 / c.2.1.1)=((upw c (tput s.2.2.2.1.1 s.2.2.2.2.1 s.2.2.2.2.2,s.2.2.2.1.2) (s.2.1 / c.2.1.1) (e.1 / c.2.1.1),s0),0):=by
     unfold turned;rw[if_pos hts,hcl,if_pos rfl]
    rw[ht];simp only;rw[z1];obtain ⟨n0,n1,n2⟩:=nb_upw (s:=(tput s.2.2.2.1.1 s.2.2.2.2.1 s.2.2.2.2.2,s.2.2.2.1.2)) h.fold.cok hT (p1x (f0g hd.b0 (by omega)) (by omega)) hd.b1 hd.b2;exact ⟨upw_ok (r0x h.fold hd.fit) _ _,n0,n1,n2,fresh1,rfl⟩
   ·have ht:turned c s (e.1 / c.2.1.1)=((s.2.2.2.1,s.2.2.2.2),0):=by
     unfold turned;rw[if_neg hts]
    have hop:s.2.2.2.2≠s0:=fun k=>by have:=hd.fit.n.n1;rw[k] at this;simp[s0,z0] at this
    have hw:s.2.2.2.2.1=e.1 / c.2.1.1:=Decidable.byContradiction fun k=>hts ⟨hop,k⟩
    rw[ht] at h5 ⊢;simp only at h5 ⊢;obtain ⟨k1,k2,k3,k4,k5⟩:=z1m h5;rw[k4];have hfit:=hd.fit;rw[hw] at hfit;have hm:=i1d hd.fit.n (i0m he);exact ⟨h.fold,f0g hd.b0 (by omega),f0g hd.b1 (Int.ediv_le_ediv (by have:=hr.w1;omega) hT),f0g hd.b2 (Int.ediv_le_ediv (by have:=hr.w2;omega) hT),
     mrg_fits hfit he (by have:=hd.ol;omega) rfl,by rw[hm];rfl⟩
 obtain ⟨k1,k2,k3,k4,k5,k6⟩:=key;exact ⟨k1,h.lab,hraw.1,.inr ⟨by show e.1 ≠ -1;omega,⟨e,hraw.2,rfl⟩,k6,k5,k2,k3,k4⟩⟩
def setS (s:Sta) (i:Nat) (y:Ser):Sta:=(s.1,(s.2.1,(s.2.2.1,s.2.2.2.set i y)))
noncomputable def xOf (s:Sta) (l:List Lab) (w:Int×(Bool×Int)):Ser:=if w.2.1=true then (newV s.1 l).1 else (s.2.2.2[w.1.toNat]?).getD ser0
noncomputable def e0u (s:Sta) (l:List Lab) (e:Ev):Sta×Int :=
 if (e0a s l e).2.2≠0 then (sta0,(e0a s l e).2.2)
 else if (putE s.1 (xOf s l (e0a s l e)) e).2≠0 then (sta0,(putE s.1 (xOf s l (e0a s l e)) e).2)
 else (setS s (e0a s l e).1.toNat (putE s.1 (xOf s l (e0a s l e)) e).1,0)
structure Goes (s:Sta) (l:List Lab) (e:Ev):Prop where
 st:StaOk s
 lab:LabOk l
 ev:EvOk e
 lo:mk s≤e.1
 hi:e.1<mk s+s.1.2.1.1
inductive PlaceAt (s:Sta) (l:List Lab) (e:Ev):Nat→Ser→Bool→Prop
 | found {i:Nat} {x:Ser} (hf:i0l s l=some i) (hx:s.2.2.2[i]? = some x) (hl:x.1=l) (hlv:LvX s x) (ht:x.2.1<e.1):PlaceAt s l e i x false
 | room {i:Nat} (hf:i0l s l=none) (hs:e.2.2.2=false) (hr:w0w s=some i):PlaceAt s l e i (l,(-1,(r0w,(emp s.1,s0)))) true
theorem m2g {c:Conf} {l:List Lab} (h:OkC c) (hl:LabOk l):newV c l=((l,(-1,(r0w,(emp c,s0)))),0):=by
 unfold newV;rw[if_pos h,if_pos hl]
theorem d2e {s:Sta} {l:List Lab} {e:Ev} (h:(e0a s l e).2.2=0):Goes s l e∧∃i x b,PlaceAt s l e i x b∧(e0a s l e).1.toNat=i∧xOf s l (e0a s l e)=x∧e0a s l e=((i:Int),(b,0)):=by
 unfold e0a at h ⊢;by_cases h1:StaOk s
 case neg=>rw[if_pos h1] at h;cases h
 rw[if_neg (fun k=>k h1)] at h ⊢;by_cases h2:LabOk l
 case neg=>rw[if_pos h2] at h;cases h
 rw[if_neg (fun k=>k h2)] at h ⊢;by_cases h3:EvOk e
 case neg=>rw[if_pos h3] at h;cases h
 rw[if_neg (fun k=>k h3)] at h ⊢;by_cases h4:e.1<mk s∨mk s+s.1.2.1.1≤e.1
 ·rw[if_pos h4] at h;cases h
 rw[if_neg h4] at h ⊢;refine ⟨⟨h1,h2,h3,by omega,by omega⟩,?_⟩;cases hf:i0l s l with
 | some i =>
  rw[hf] at h;simp only at h ⊢;obtain ⟨x,hx,k1,k2,k3⟩:=f0d.1 hf;rw[hx] at h ⊢;simp only[Option.getD_some] at h ⊢;by_cases h5:e.1≤x.2.1
  ·rw[if_pos h5] at h;cases h
  rw[if_neg h5];exact ⟨i,x,false,.found hf hx k1 k2 (by omega),rfl,by unfold xOf;simp[hx],rfl⟩
 | none =>
  rw[hf] at h;simp only at h ⊢;cases h5:e.2.2.2 with
  | true=>rw[h5,if_pos rfl] at h;cases h
  | false =>
   rw[h5,if_neg (by simp)] at h;rw[if_neg (by simp)];cases hr:w0w s with
   | none=>rw[hr] at h;cases h
   | some i =>
    simp only;exact ⟨i,_,true,.room hf h5 hr,rfl,by unfold xOf;rw[if_pos rfl,m2g h1.whole.1 h2],rfl⟩
theorem r0j {s:Sta} {l:List Lab} {e:Ev} (h:Goes s l e) {i:Nat} {x:Ser} {b:Bool} (hp:PlaceAt s l e i x b):SerOk s.1 x∧x.1=l∧i<s.2.2.2.length∧x.2.1<e.1:=by
 cases hp with
 | found hf hx hl hlv ht =>
  rcases h.st.right _ _ hx with k | k
  ·exact absurd k hlv.1
  ·exact ⟨k.1,hl,(List.getElem?_eq_some_iff.1 hx).1,ht⟩
 | room hf hs hr =>
  obtain ⟨y,hy,_⟩:=p0n.1 hr;exact ⟨k0c (p1w h.st.whole.1 h.lab),rfl,(List.getElem?_eq_some_iff.1 hy).1,by have:=h.ev.t0;show (-1:Int)<e.1;omega⟩
theorem u0f {s t:Sta} {l:List Lab} {e:Ev} (h:e0u s l e=(t,0)):Goes s l e∧∃i x b y,PlaceAt s l e i x b∧putE s.1 x e=(y,0)∧t=setS s i y∧e0a s l e=((i:Int),(b,0)):=by
 unfold e0u at h;by_cases h1:(e0a s l e).2.2=0
 case neg=>rw[if_pos h1] at h;exact absurd (congrArg Prod.snd h) h1
 rw[if_neg (fun k=>k h1)] at h;obtain ⟨hg,i,x,b,k1,k2,k3,k4⟩:=d2e h1;rw[k2,k3] at h;by_cases h2:(putE s.1 x e).2=0
 case neg=>rw[if_pos h2] at h;exact absurd (congrArg Prod.snd h) h2
 rw[if_neg (fun k=>k h2)] at h;exact ⟨hg,i,x,b,_,k1,Prod.ext rfl h2,(congrArg Prod.fst h).symm,k4⟩
theorem n0v (s:Sta) (i:Nat) (y:Ser) (j:Nat):(setS s i y).2.2.2[j]? = if i=j then (if i<s.2.2.2.length then some y else none) else s.2.2.2[j]? := by
 unfold setS;simp only[List.getElem?_set]
theorem m2h {s:Sta} (h:StaOk s) {y:Ser} (hn:y≠ser0) (h1:mk s≤y.2.1) (h2:y.2.1<35184372088832):LvX s y:=by
 refine ⟨hn,?_⟩;rcases h.clock.2.1 with k | k
 ·exact .inl k
 ·refine .inr ?_;have hr:=h.whole.1.rng;have hc:=h.clock.2.2;obtain ⟨m1,m2,m3,m4⟩:=z0g h.clock.1 hr.w0;have e1:s.2.2.1 / s.1.2.1.1≤y.2.1 / s.1.2.1.1:=by
   have a1:s.2.1 / s.1.2.1.1≤y.2.1 / s.1.2.1.1:=by
    rw[Int.le_ediv_iff_mul_le (by omega)];exact h1
   have a2:s.2.2.1 / s.1.2.1.1≤s.2.1 / s.1.2.1.1:=Int.ediv_le_ediv (by omega) hc;omega
  unfold o0z;have g:r0u y.2.1 s.2.2.1 s.1.2.1.1 s.1.2.2.1.1=false:=by
   unfold r0u oldV;have n0:=hr.n0;have:=Int.ediv_nonneg k.1 (show 0≤s.1.2.1.1 by omega);rw[if_pos ⟨⟨k.1,k.2,hr.w0.1,hr.w0.2⟩,n0.1,n0.2⟩];refine decide_eq_false fun q => ?_
   have q:=q.2.2;simp only at q;split at q<;>omega
  rw[g];simp
theorem g1m {s t:Sta} {l:List Lab} {e:Ev} (h:e0u s l e=(t,0)):StaOk t:=by
 obtain ⟨hg,i,x,b,y,hp,hput,rfl,_⟩:=u0f h;obtain ⟨p1,p2,p3,p4⟩:=r0j hg hp;obtain ⟨q1,q2,q3,q4,q5⟩:=m0o p1 hput;have hst:=hg.st;refine ⟨⟨hst.whole.1,by simpa [setS] using hst.whole.2⟩,hst.clock,fun j z hz => ?_⟩;rw[n0v] at hz;by_cases hij:i=j
 ·subst hij;rw[if_pos rfl,if_pos p3] at hz;cases hz;refine .inr ⟨q1,by rw[q4];exact hg.ev.t0,by rw[q4];exact hg.hi,?_⟩;rintro ⟨_,k,hk,w,hw,hlw,hwl⟩;rw[n0v,if_neg (by omega)] at hw;rw[q5,p2] at hwl;cases hp with
  | found hf hx hl hlv ht =>
   obtain ⟨_,_,_,_,first⟩:=f0d.1 hf;exact first k hk w hw ⟨hwl,hlw⟩
  | room hf hs hr=>exact h0o.1 hf w (List.mem_of_getElem? hw) ⟨hwl,hlw⟩
 ·rw[if_neg hij] at hz;rcases hst.right j z hz with k | ⟨k1,k2,k3,k4⟩
  ·exact .inl k
  ·refine .inr ⟨k1,k2,k3,?_⟩;rintro ⟨hlz,k,hk,w,hw,hlw,hwl⟩;rw[n0v] at hw;by_cases hik:i=k
   ·subst hik;rw[if_pos rfl,if_pos p3] at hw;cases hw;rw[q5,p2] at hwl;cases hp with
    | found hf hx hl hlv ht=>exact k4 ⟨hlz,i,hk,x,hx,hlv,hl.trans hwl⟩
    | room hf hs hr=>exact h0o.1 hf z (List.mem_of_getElem? hz) ⟨hwl.symm,hlz⟩
   ·rw[if_neg hik] at hw;exact k4 ⟨hlz,k,hk,w,hw,hlw,hwl⟩
noncomputable def g2n (s:Sta):Int×Int:=if StaOk s then (mk s,if 35184372088832<mk s+s.1.2.1.1 then 35184372088832 else mk s+s.1.2.1.1) else (0,0)
theorem markV_ok {s:Sta} (h:StaOk s):markV s=mk s∧IntKind.wrap .i64 (mk s+s.1.2.1.1)=mk s+s.1.2.1.1:=by
 have hr:=h.whole.1.rng.w0;have ht:=h.clock.1.2;obtain ⟨m1,m2,m3,m4⟩:=z0g h.clock.1 hr;exact ⟨if_pos ⟨h.whole,h.clock.1⟩,w64 (by omega) (by omega)⟩
theorem f2v (n:Nat) {s:Sta} (hw:StaW s):b1h (n+15) s=some (g2n s):=by
 rw[p1d,e0w n hw,obs,tfn,tfd,stt_mark (n+9) s];unfold g2n;by_cases h:StaOk s
 case neg=>rw[if_neg h,if_neg h,if_neg (show ¬((2:Int)=0) by decide)]
 obtain ⟨e1,e2⟩:=markV_ok h;rw[if_pos h,if_pos h,if_pos rfl,obs,e1,e2]
theorem c2g {s:Sta} {e:Ev} (h:StaOk s) (he:EvOk e):(e.1<(g2n s).1∨(g2n s).2≤e.1)↔(e.1<mk s∨mk s+s.1.2.1.1≤e.1):=by
 have:=he.t1;unfold g2n;rw[if_pos h];simp only;split<;>omega
theorem m1y {s:Sta} (h:Whole s) {l:List Lab} {i:Nat} (hf:i0l s l=some i):i2e s l=((i:Int),0):=by
 unfold i2e;rw[if_pos h,hf]
theorem m1z {s:Sta} (h:Whole s) {l:List Lab} (hf:i0l s l=none):i2e s l=(0,3):=by
 unfold i2e;rw[if_pos h,hf]
theorem f2z {s:Sta} (h:Whole s) {i:Nat} (hf:w0w s=some i):g2b s=((i:Int),0):=by
 unfold g2b;rw[if_pos h,hf]
theorem g2a {s:Sta} (h:Whole s) (hf:w0w s=none):g2b s=(0,7):=by
 unfold g2b;rw[if_pos h,hf]
theorem x1d {s:Sta} {l:List Lab} {e:Ev} (h:StaOk s) (h1:LabOk l) (h2:EvOk e) (h3:¬(e.1<mk s∨mk s+s.1.2.1.1≤e.1)) :
  e0a s l e=match i0l s l with
   | some i=>if e.1≤((s.2.2.2[i]?).getD ser0).2.1 then (0,(false,9)) else ((i:Int),(false,0))
   | none=>if e.2.2.2=true then (0,(false,3)) else match w0w s with | some i=>((i:Int),(true,0)) | none=>(0,(false,7)):=by
 unfold e0a;rw[if_neg (fun k=>k h),if_neg (fun k=>k h1),if_neg (fun k=>k h2),if_neg h3]
 all_goals (cases i0l s l<;>first | rfl | (cases w0w s<;>rfl))
theorem y1n (n:Nat) {s:Sta} (hw:StaW s) (l:List Lab) {e:Ev} (he:EvW e):w0v (n+16) s l e=some (e0a s l e):=by
 rw[k1h,e0w (n+1) hw,obs,tfn,tfd,g0y _ l,e0s _ he,f2v n hw,b2q (n+5) hw l,stt_room (n+5) hw];by_cases h:StaOk s
 case neg =>
  rw[if_neg h,if_neg (show ¬((2:Int)=0) by decide)];unfold e0a;rw[if_pos h]
 rw[if_pos h,if_pos rfl,obs,tfn,tfd];by_cases h1:LabOk l
 case neg =>
  rw[if_neg h1,if_neg (show ¬((8:Int)=0) by decide)];unfold e0a;rw[if_neg (fun k=>k h),if_pos h1]
 rw[if_pos h1,if_pos rfl,obs,tfn,tfd];by_cases h2:EvOk e
 case neg =>
  rw[if_neg h2,if_neg (show ¬((2:Int)=0) by decide)];unfold e0a;rw[if_neg (fun k=>k h),if_neg (fun k=>k h1),if_pos h2]
 rw[if_pos h2,if_pos rfl,obs,obs,tfd,tfd];by_cases h3:e.1<mk s∨mk s+s.1.2.1.1≤e.1
 ·have ht:e0a s l e=(0,(false,9)):=by
   unfold e0a;rw[if_neg (fun k=>k h),if_neg (fun k=>k h1),if_neg (fun k=>k h2),if_pos h3]
  rw[ht];rcases (c2g h h2).2 h3 with q | q
  ·rw[if_pos q]
  ·by_cases q':e.1<(g2n s).1
   ·rw[if_pos q']
   ·rw[if_neg q',if_pos q]
 have h3':=mt (c2g h h2).1 h3;rw[if_neg (fun k=>h3' (.inl k)),if_neg (fun k=>h3' (.inr k)),x1d h h1 h2 h3,tfd];cases hf:i0l s l with
 | some i =>
  obtain ⟨x,hx,_⟩:=f0d.1 hf;rw[m1y h.whole hf,if_pos rfl,e1p hx,obs,tfd];simp only[hx,Option.getD_some];by_cases h4:e.1≤x.2.1
  ·rw[if_pos h4,if_pos h4]
  ·rw[if_neg h4,if_neg h4];rfl
 | none =>
  rw[m1z h.whole hf,if_neg (show ¬((3:Int)=0) by decide),show (decide (((0:Int),(3:Int)).2=0))=false from rfl,tff];cases hs:e.2.2.2 with
  | true=>rw[tft];simp
  | false =>
   rw[tff,obs];simp only[Bool.false_eq_true,if_false];cases hr:w0w s with
   | some i=>rw[f2z h.whole hr];rfl
   | none=>rw[g2a h.whole hr];rfl
theorem j2j {s:Sta} {l:List Lab} {e:Ev} (h:(e0a s l e).2.2≠0):e0u s l e=(sta0,(e0a s l e).2.2):=by
 unfold e0u;rw[if_pos h]
theorem p2c (n:Nat) (s:List Ser) (h:s.length≤1000000):m0j (n+1) s=some s:=by
 rw[y0p,decide_eq_true (show (0+s.length)*264≤140737488355328 by omega)];simp only[tft,List.nil_append];by_cases h0:s.length=0
 ·rw[decide_eq_true h0,tft,List.length_eq_zero_iff.1 h0,j1h]
 ·rw[decide_eq_false h0,tff]
theorem place_w {s:Sta} (hw:StaW s) {l:List Lab} {e:Ev} (hg:Goes s l e) {i:Nat} {x:Ser} {b:Bool} (hp:PlaceAt s l e i x b):SerW x:=by
 cases hp with
 | found hf hx hl hlv ht=>exact (hw.at hx).1
 | room hf hs hr=>exact serInv_w (p1w hg.st.whole.1 hg.lab)
theorem j2e {s:Sta} {l:List Lab} {e:Ev} {i:Nat} {x:Ser} {b:Bool} (hp:(e0a s l e).1.toNat=i) (hx:xOf s l (e0a s l e)=x) (h:(e0a s l e).2.2=0) :
  e0u s l e=if (putE s.1 x e).2=0 then (setS s i (putE s.1 x e).1,0) else (sta0,(putE s.1 x e).2):=by
 unfold e0u;rw[if_neg (fun k=>k h),hp,hx];by_cases h1:(putE s.1 x e).2=0
 ·rw[if_neg (fun k=>k h1),if_pos h1]
 ·rw[if_pos h1,if_neg h1]
theorem set_tail {s:Sta} {i:Nat} (hi:i<s.2.2.2.length) (y:Ser) :
  (a0a (at? s.2.2.2 (i:Int)) fun r4=>a0a ((s.2.2.2)[(Int.toNat (i:Int))]?) fun r5=>some ((s.1,(s.2.1,(s.2.2.1,(List.set s.2.2.2 (Int.toNat (i:Int)) y)))),(0:Int)))=some (setS s i y,0):=by
 obtain ⟨z,hz⟩:=w1b hi;rw[e1p hz,obs,Int.toNat_natCast,hz,obs];rfl
theorem j2f (n:Nat) {s:Sta} (hw:StaW s) (l:List Lab) {e:Ev} (he:EvW e):f1q (n+24) s l e=some (e0u s l e):=by
 rw[s1l,y1n (n+7) hw l he,obs,tfn,tfd];by_cases h:(e0a s l e).2.2=0
 case neg=>rw[if_neg h,j2j h];rfl
 obtain ⟨hg,i,x,b,hp,k1,k2,hv⟩:=d2e h;obtain ⟨p1,p2,p3,p4⟩:=r0j hg hp;rw[if_pos h,j2e (b:=b) k1 k2 h,hv,j1u];have hx:(tif b (a0a (u0s (n+22) s.1 l) fun r0=>some r0) (a0a (at? s.2.2.2 (i:Int)) fun r1=>some (r1,(0:Int))))=some (x,0):=by
  cases hp with
  | found hf hx hl hlv ht=>rw[tff,e1p hx,obs]
  | room hf hs hr=>rw[tft,f2s (n+15),m2g hg.st.whole.1 hg.lab,obs]
 simp only;rw[hx,obs,tfn,tfd,if_pos rfl];simp only;rw[f2r n s.1 (place_w hw hg hp) he,obs,tfn,tfd];by_cases h1:(putE s.1 x e).2=0
 case neg=>rw[if_neg h1,if_neg h1];rfl
 rw[if_pos h1,if_pos h1,p2c (n+22) _ (by have:=hg.st.whole.len;omega),obs,set_tail p3]
def Moves (s:Sta) (now:Int):Prop:=StaOk s∧s.2.1<now∧now<35184372088832
noncomputable instance (s now):Decidable (Moves s now):=Classical.propDecidable _
def f2e (s:Sta) (now:Int):Sta:=(s.1,(now,s.2.2))
noncomputable def a1s (s:Sta) (now:Int):Sta×Bool:=if Moves s now then (f2e s now,true) else (s,false)
theorem csc_tick (n:Nat) {s:Sta} (hw:StaW s) (now:Int):r1n (n+15) s now=some (a1s s now):=by
 rw[a2m,e0w n hw];unfold a1s;simp only[tfd,tfn,obs];by_cases h:Moves s now
 ·rw[if_neg (by have:=h.2.1;omega),if_neg (by have:=h.2.2;omega),if_pos h.1,if_pos rfl,if_pos h];rfl
 ·rw[if_neg h];by_cases h1:now≤s.2.1
  ·rw[if_pos h1]
  rw[if_neg h1];by_cases h2:35184372088832≤now
  ·rw[if_pos h2]
  rw[if_neg h2,if_neg (fun k:StaOk s=>h ⟨k,by omega,by omega⟩)];rfl
theorem k2a {s:Sta} (hw:StaW s) (now:Int):StaW (f2e s now):=⟨hw.len,hw.ser⟩
theorem j2z {s:Sta} {now:Int} (h:Moves s now):StaOk (f2e s now):=by
 obtain ⟨h,h1,h2⟩:=h;have t0:=h.clock.1.1;have hr:=h.whole.1.rng.w0;refine ⟨h.whole,⟨⟨by show 0≤now;omega,h2⟩,h.clock.2.1,by have:=h.clock.2.2;show s.2.2.1≤now;omega⟩,fun i x hx => ?_⟩;rcases h.right i x hx with k | ⟨k1,k2,k3,k4⟩
 ·exact .inl k
 ·refine .inr ⟨k1,k2,?_,k4⟩;have:mk s≤mk (f2e s now):=Int.mul_le_mul_of_nonneg_right (Int.ediv_le_ediv (by omega) (by show s.2.1≤now;omega)) (by omega);show x.2.1<mk (f2e s now)+s.1.2.1.1;omega
def b0c (c:Conf) (k:Int):Int:=if k=0 then c.2.1.1 else if k=1 then c.2.1.2.1 else c.2.1.2.2
def p0f (c:Conf) (k:Int):Int:=if k=0 then c.2.2.1.1 else if k=1 then c.2.2.1.2.1 else c.2.2.1.2.2
noncomputable def n2b (s:Sta) (k:Int):Int×(Int×Int) :=
 if StaOk s then (if k<0∨2<k then (0,(0,1)) else ((oldV s.2.1 (b0c s.1 k) (p0f s.1 k)).1,(s.2.1 / b0c s.1 k,0))) else (0,(0,2))
theorem r0o {now w m:Int} (h:OfP now w) (hm:1≤m∧m≤4096):(oldV now w m).2=0:=by
 unfold oldV;rw[if_pos ⟨h,hm.1,hm.2⟩]
theorem f1h (n:Nat) {s:Sta} (hw:StaW s) (k:Int):v0e (n+16) s k=some (n2b s k):=by
 rw[a2n,w1e,e0w n hw];unfold n2b;by_cases h:StaOk s
 case neg=>rw[if_neg h,if_neg h];rfl
 rw[if_pos h,if_pos h];have hr:=h.whole.1.rng;have ht:=h.clock.1;simp only[obs,decide_true,Bool.not_true,tff,tfd,tfn,s0r (n+11)];by_cases h1:k<0
 ·rw[if_pos h1,if_pos (Or.inl h1)];rfl
 rw[if_neg h1];by_cases h2:3≤k
 ·rw[if_pos h2,if_pos (show k<0∨2<k by omega)];rfl
 rw[if_neg h2,if_neg (show ¬(k<0∨2<k) by omega)];simp only[obs,if_true];have q0:=p0p ht hr.w0.1;have q1:=p0p ht hr.w1.1;have q2:=p0p ht hr.w2.1;rcases (by omega:k=0∨k=1∨k=2) with e | e | e
 ·subst e;simp only[if_true,if_neg (nz hr.w0.1),q0,r0o ⟨ht.1,ht.2,hr.w0.1,hr.w0.2⟩ hr.n0];rfl
 ·subst e;simp only[if_true,if_neg (show ¬((1:Int)=0) by decide),if_neg (nz hr.w1.1),q1,r0o ⟨ht.1,ht.2,hr.w1.1,hr.w1.2⟩ hr.n1];rfl
 ·subst e;simp only[if_true,if_neg (show ¬((2:Int)=0) by decide),if_neg (show ¬((2:Int)=1) by decide),if_neg (nz hr.w2.1),q2,r0o ⟨ht.1,ht.2,hr.w2.1,hr.w2.2⟩ hr.n2];rfl
def j1t (o:Int) (r:Int×Int) (s:Slo):Prop:=¬(s.1<o∧(s.1<r.1∨r.2≤s.1))
instance (o r s):Decidable (j1t o r s):=by unfold j1t;infer_instance
def m0z (o:Int) (r:Int×Int) (l:List Slo):List Slo:=l.map fun s=>if j1t o r s then s else s0
theorem g0t (o r) (l:List Slo):(m0z o r l).length=l.length:=by simp[m0z]
theorem r1b {o r} {l:List Slo} {w:Int} (h:TierOk l w):TierOk (m0z o r l) w:=by
 refine ⟨by rw[g0t];exact h.l0,by rw[g0t];exact h.l1,h.w0,h.w1,fun j s hs => ?_⟩;rw[g0t];unfold m0z at hs;rw[List.getElem?_map] at hs;cases ha:l[j]? with
 | none=>rw[ha] at hs;cases hs
 | some a =>
  rw[ha] at hs;simp only[Option.map_some,Option.some.injEq] at hs;split at hs
  ·rw[←hs];exact h.s j a ha
  ·exact .inl hs.symm
theorem v0c {o r} {l:List Slo} {a:Int} (h:a0s l a):a0s (m0z o r l) a:=by
 intro s hs hc;unfold m0z at hs;obtain ⟨x,hx,e⟩:=List.mem_map.1 hs;split at e
 ·rw[←e] at hc ⊢;exact h x hx hc
 ·rw[←e] at hc;exact absurd hc (by decide)
def o0x (c:Conf) (last:Int):Int×Int:=(last / c.2.1.2.1*(c.2.1.2.1 / c.2.1.1),last / c.2.1.2.1*(c.2.1.2.1 / c.2.1.1)+c.2.1.2.1 / c.2.1.1)
def p0u (c:Conf) (last:Int):Int×Int:=(last / c.2.1.2.2*(c.2.1.2.2 / c.2.1.2.1),last / c.2.1.2.2*(c.2.1.2.2 / c.2.1.2.1)+c.2.1.2.2 / c.2.1.2.1)
noncomputable def i0u (c:Conf) (now:Int) (x:Ser):Ser :=
 (x.1,(x.2.1,(x.2.2.1,((m0z (oldV now c.2.1.1 c.2.2.1.1).1 (o0x c x.2.1) x.2.2.2.1.1,(m0z (oldV now c.2.1.2.1 c.2.2.1.2.1).1 (p0u c x.2.1) x.2.2.2.1.2.1,m0z (oldV now c.2.1.2.2 c.2.2.1.2.2).1 (0,0) x.2.2.2.1.2.2)),x.2.2.2.2))))
theorem a2o {c:Conf} {now:Int} {x:Ser} (h:FoldOk c x.2.2.2.1):FoldOk c (i0u c now x).2.2.2.1 :=
 ⟨h.cok,by simpa [i0u,g0t] using h.n0,by simpa [i0u,g0t] using h.n1,by simpa [i0u,g0t] using h.n2,r1b h.t0,r1b h.t1,r1b h.t2⟩
theorem p2f {c:Conf} {now:Int} {x:Ser} (h:SerOk c x):SerOk c (i0u c now x):=by
 refine ⟨a2o h.fold,h.lab,h.raw,?_⟩;rcases h.st with ⟨k1,k2⟩ | ⟨k1,k2⟩
 ·exact .inl ⟨k1,k2.raw,k2.opn,v0c k2.b0,v0c k2.b1,v0c k2.b2⟩
 ·exact .inr ⟨k1,k2.last,k2.ol,k2.fit,v0c k2.b0,v0c k2.b1,v0c k2.b2⟩
theorem z0f {a b:Cel} (ha:b0h a) (hb:b0h b) (h:Ahead a b):mrgE a b=(mrg a b,0):=by
 unfold mrgE;rw[if_pos ⟨ha,hb⟩,if_pos h]
theorem p2y {w:Int}:∀(L:List Slo) (c:Cel) (lo hi:Int),Up L→(∀s∈L,FitsP s.2 w s.1∧lo≤s.1∧s.1<hi)→b0h c→(c=z0∨c.2.2.1.1 / w<lo)→lo≤hi→(allE c (L.map (·.2))).1=z0∨(allE c (L.map (·.2))).1.2.2.1.1 / w<hi:=by
 intro L;induction L with
 | nil=>intro c lo hi _ _ _ h hle;rcases h with h | h;exact .inl h;exact .inr (by simp only[List.map_nil,allE];omega)
 | cons s L ih =>
  intro c lo hi hu hs hc hl hle;unfold Up at hu;rw[List.pairwise_cons] at hu;obtain ⟨hf,h1,h2⟩:=hs s (by simp);have ha:Ahead c s.2:=by
   rcases hl with h | h
   ·exact .inl h
   ·refine .inr (.inr ?_);have e:=hf.f;rcases Int.lt_or_le c.2.2.1.1 s.2.2.1.1 with q | q
    ·exact q
    ·have:=Int.ediv_le_ediv (c:=w) (by have:=hf.w0;omega) q;omega
  simp only[List.map_cons,allE];rw[z0f hc hf.n.ok ha,if_pos rfl];refine ih _ (s.1+1) hi hu.2 (fun x hx=>⟨(hs x (by simp[hx])).1,by have:=hu.1 x hx;omega,(hs x (by simp[hx])).2.2⟩) (v1g hc hf.n.ok ha) (.inr ?_) (by omega);have el:(mrg c s.2).2.2.1.1=s.2.2.2.1.1:=by
   unfold mrg;by_cases k:c=z0
   ·rw[if_pos k]
   ·rw[if_neg k,if_neg hf.n.ne]
  rw[el,hf.l];omega
theorem l1o {t:List Slo} {w i j a:Int} (h:TierOk t w) (hb:a0s t a) (h0:0≤i) (ha:i≤a):b0h (tfold t i j).1∧((tfold t i j).1=z0∨(tfold t i j).1.2.2.1.1 / w<a):=by
 refine ⟨p0g _ _ _,?_⟩;unfold tfold;split
 ·exact .inl rfl
 ·unfold within;have hn:=(t0o h a).1 hb;refine p2y (w:=w) _ z0 i a ((w0s h).filter _) (fun s hs => ?_) p0t (.inl rfl) ha;obtain ⟨s1,s2⟩:=List.mem_filter.1 hs;have s2:=of_decide_eq_true s2;exact ⟨(i0b h s1).1,s2.1,hn s s1⟩
theorem e2k {a b:Cel} {w k:Int} (hw:1≤w) (ha:a=z0∨a.2.2.1.1 / w<k) (hb:b=z0∨b.2.1.1 / w=k):Ahead a b:=by
 rcases ha with ha | ha
 ·exact .inl ha
 rcases hb with hb | hb
 ·exact .inr (.inl hb)
 refine .inr (.inr ?_);rcases Int.lt_or_le a.2.2.1.1 b.2.1.1 with q | q
 ·exact q
 ·have:=Int.ediv_le_ediv (c:=w) (by omega) q;omega
theorem j2a {w:Int}:∀(L:List Slo) (c:Cel) (lo:Int),Up L→(∀s∈L,FitsP s.2 w s.1∧lo≤s.1)→b0h c→(c=z0∨c.2.2.1.1 / w<lo)→∀b:Int,(c=z0∨b≤c.2.1.1 / w)→b≤lo→(allE c (L.map (·.2))).1=z0∨b≤(allE c (L.map (·.2))).1.2.1.1 / w:=by
 intro L;induction L with
 | nil=>intro c lo _ _ _ _ b hb _;exact hb
 | cons s L ih =>
  intro c lo hu hs hc hl b hb hbl;unfold Up at hu;rw[List.pairwise_cons] at hu;obtain ⟨hf,h1⟩:=hs s (by simp);have ha:Ahead c s.2:=by
   rcases hl with h | h
   ·exact .inl h
   ·refine .inr (.inr ?_);have e:=hf.f;rcases Int.lt_or_le c.2.2.1.1 s.2.2.1.1 with q | q
    ·exact q
    ·have:=Int.ediv_le_ediv (c:=w) (by have:=hf.w0;omega) q;omega
  simp only[List.map_cons,allE];rw[z0f hc hf.n.ok ha,if_pos rfl];refine ih _ (s.1+1) hu.2 (fun x hx=>⟨(hs x (by simp[hx])).1,by have:=hu.1 x hx;omega⟩) (v1g hc hf.n.ok ha) (.inr ?_) b ?_ (by omega)
  ·have el:(mrg c s.2).2.2.1.1=s.2.2.2.1.1:=by
    unfold mrg;by_cases k:c=z0
    ·rw[if_pos k]
    ·rw[if_neg k,if_neg hf.n.ne]
   rw[el,hf.l];omega
  ·unfold mrg;by_cases k:c=z0
   ·rw[if_pos k,hf.f];exact .inr (by omega)
   ·rw[if_neg k,if_neg hf.n.ne];rcases hb with hb | hb
    ·exact absurd hb k
    ·exact .inr hb
theorem x1o {t:List Slo} {w i j:Int} (h:TierOk t w) (h0:0≤i):(tfold t i j).1=z0∨i≤(tfold t i j).1.2.1.1 / w:=by
 unfold tfold;split
 ·exact .inl rfl
 ·unfold within;refine j2a (w:=w) _ z0 i ((w0s h).filter _) (fun s hs => ?_) p0t (.inl rfl) i (.inl rfl) (Int.le_refl _);obtain ⟨s1,s2⟩:=List.mem_filter.1 hs;have s2:=of_decide_eq_true s2;exact ⟨(i0b h s1).1,s2.1⟩
theorem now_up {t:List Slo} {a b T:Int} {cur:Cel} (h:TierOk t a) (hb:a0s t (T / a)) (ha:1≤a) (hb1:1≤b) (hm:b % a=0) (hT:0≤T) (hc:CellN cur) (hf:cur.2.1.1 / a=T / a) :
  ∃m,mrgE (tfold t (T / b*(b / a)) (T / a)).1 cur=(m,0)∧CellN m∧m.2.1.1 / b=T / b:=by
 have hp:=g0d ha hb1 hm;have q:=(edvm (t:=T) ha hb1 hm).2;have hT':0≤T / b:=Int.ediv_nonneg hT (by omega);have u0:T / b*(b / a)≤T / a:=by rw[←q];exact Int.ediv_mul_le _ (by omega)
 have p0:0≤T / b*(b / a):=Int.mul_nonneg hT' (by omega);obtain ⟨k1,k2⟩:=l1o (j:=T / a) h hb p0 u0;have k3:=x1o (j:=T / a) h p0;have hah:=e2k ha k2 (.inr hf);refine ⟨_,z0f k1 hc.ok hah,?_,?_⟩
 ·rcases k1 with z | z
  ·rw[z,x0q];exact hc
  ·rcases hah with y | y | y
   ·rw[y,x0q];exact hc
   ·exact absurd y hc.ne
   ·exact g2v z hc y
 ·unfold mrg;by_cases z:(tfold t (T / b*(b / a)) (T / a)).1=z0
  ·rw[if_pos z,←(edvm (t:=cur.2.1.1) ha hb1 hm).2,hf,q]
  ·rw[if_neg z,if_neg hc.ne];have z1:=k2.resolve_left z;have z2:=k3.resolve_left z;have z3:=(k1.n z).ft;have z4:(tfold t (T / b*(b / a)) (T / a)).1.2.1.1 / a≤(tfold t (T / b*(b / a)) (T / a)).1.2.2.1.1 / a:=Int.ediv_le_ediv (by omega) z3;rw[←(edvm (t:=(tfold t (T / b*(b / a)) (T / a)).1.2.1.1) ha hb1 hm).2];have z5:(tfold t (T / b*(b / a)) (T / a)).1.2.1.1 / a / (b / a)≤T / a / (b / a):=Int.ediv_le_ediv (by omega) (by omega);have z6:T / b≤(tfold t (T / b*(b / a)) (T / a)).1.2.1.1 / a / (b / a):=by rw[Int.le_ediv_iff_mul_le hp];exact z2
   omega
theorem b1k {t:List Slo} {w T i j:Int} {cur:Cel} {ok:Prop} [Decidable ok] (hok:ok) (h:TierOk t w) (hb:T = -1∨a0s t (T / w)∧CellN cur∧cur.2.1.1 / w=T / w) (h0:0≤i) (hij:i≤j):(c0o ok i j T w t (cur,0)).2=0:=by
 unfold c0o;rw[if_pos hok,if_neg (by omega),if_neg (by omega)];by_cases h1:T = -1
 ·rw[if_pos h1]
 rw[if_neg h1];obtain ⟨hb,hc,hf⟩:=hb.resolve_left h1;by_cases h2:T / w<i
 ·rw[if_pos h2];exact i0z h h0 hij
 rw[if_neg h2];by_cases h3:j≤T / w
 ·rw[if_pos h3];exact i0z h h0 hij
 rw[if_neg h3,if_neg (nn rfl)];obtain ⟨k1,k2⟩:=l1o (j:=j) h hb h0 (by omega:i≤T / w);rw[z0f k1 hc.ok (e2k h.w0 k2 (.inr hf))]
structure Ends3 (c:Conf) (s:Ser):Prop where
 t0:s.2.1 = -1∨a0s s.2.2.2.1.1 (s.2.1 / c.2.1.1)∧CellN s.2.2.2.2.2∧s.2.2.2.2.2.2.1.1 / c.2.1.1=s.2.1 / c.2.1.1
 t1:s.2.1 = -1∨∃m,now1 c s=(m,0)∧a0s s.2.2.2.1.2.1 (s.2.1 / c.2.1.2.1)∧CellN m∧m.2.1.1 / c.2.1.2.1=s.2.1 / c.2.1.2.1
 t2:s.2.1 = -1∨∃m,now2 c s=(m,0)∧a0s s.2.2.2.1.2.2 (s.2.1 / c.2.1.2.2)∧CellN m∧m.2.1.1 / c.2.1.2.2=s.2.1 / c.2.1.2.2
theorem y1j {c:Conf} {s:Ser} (h:SerOk c s):Ends3 c s:=by
 have hr:=h.fold.cok.rng;by_cases hn:s.2.1 = -1
 ·exact ⟨.inl hn,.inl hn,.inl hn⟩
 have ht:=n0w h hn;obtain ⟨he,_⟩:=l1z h hn;have hf:s.2.2.2.2.2.2.1.1 / c.2.1.1=s.2.1 / c.2.1.1:=by
  rw[he.fit.f,←he.fit.l,he.ol]
 obtain ⟨m1,a1,a2,a3⟩:=now_up h.fold.t0 he.b0 hr.w0.1 hr.w1.1 h.fold.cok.m1 ht.1 he.fit.n hf;obtain ⟨m2,b1,b2,b3⟩:=now_up h.fold.t1 he.b1 hr.w1.1 hr.w2.1 h.fold.cok.m2 ht.1 a2 a3;have e1:now1 c s=(m1,0):=a1;refine ⟨.inr ⟨he.b0,he.fit.n,hf⟩,.inr ⟨m1,e1,he.b1,a2,a3⟩,.inr ⟨m2,?_,he.b2,b2,b3⟩⟩;unfold now2;rw[e1,if_neg (nn rfl)];exact b1
noncomputable def rangeK (c:Conf) (s:Ser) (k i j:Int):Cel×Int :=
 if k=0 then c0o (SerOk c s) i j s.2.1 c.2.1.1 s.2.2.2.1.1 (s.2.2.2.2.2,0)
 else if k=1 then c0o (SerOk c s) i j s.2.1 c.2.1.2.1 s.2.2.2.1.2.1 (now1 c s)
 else c0o (SerOk c s) i j s.2.1 c.2.1.2.2 s.2.2.2.1.2.2 (now2 c s)
theorem y1x {c:Conf} {s:Ser} (h:SerOk c s) (k:Int) {i j:Int} (h0:0≤i) (hij:i≤j):(rangeK c s k i j).2=0:=by
 have he:=y1j h;unfold rangeK;split
 ·exact b1k h h.fold.t0 he.t0 h0 hij
 split
 ·by_cases hn:s.2.1 = -1
  ·unfold c0o;rw[if_pos h,if_neg (by omega),if_neg (by omega),if_pos hn]
  ·obtain ⟨m,e,k1,k2,k3⟩:=he.t1.resolve_left hn;rw[e];exact b1k h h.fold.t1 (.inr ⟨k1,k2,k3⟩) h0 hij
 ·by_cases hn:s.2.1 = -1
  ·unfold c0o;rw[if_pos h,if_neg (by omega),if_neg (by omega),if_pos hn]
  ·obtain ⟨m,e,k1,k2,k3⟩:=he.t2.resolve_left hn;rw[e];exact b1k h h.fold.t2 (.inr ⟨k1,k2,k3⟩) h0 hij
theorem nb_all {c:Conf} {s:Ser} (h:SerOk c s):a0s s.2.2.2.1.1 (s.2.1 / c.2.1.1+1)∧a0s s.2.2.2.1.2.1 (s.2.1 / c.2.1.2.1+1)∧a0s s.2.2.2.1.2.2 (s.2.1 / c.2.1.2.2+1):=by
 have hr:=h.fold.cok.rng;rcases h.st with ⟨k1,k2⟩ | ⟨k1,k2⟩
 ·rw[k1];have e:∀w:Int,1≤w→(-1:Int) / w = -1:=fun w hw=>Int.ediv_eq_iff_of_pos (by omega) |>.2 ⟨by omega,by omega⟩
  rw[e _ hr.w0.1,e _ hr.w1.1,e _ hr.w2.1];exact ⟨k2.b0,k2.b1,k2.b2⟩
 ·exact ⟨f0g k2.b0 (by omega),f0g k2.b1 (by omega),f0g k2.b2 (by omega)⟩
noncomputable def a2h (s:Sta) (i:Nat):Bool:=match s.2.2.2[i]? with | some x=>o0z s.1 x.2.1 s.2.1 | none=>false
noncomputable def dueV (s:Sta):List Nat:=if StaOk s then (g0c s).filter (a2h s) else []
def c1t (s:Sta):Sta:=(s.1,(s.2.1,(s.2.1,s.2.2.2)))
noncomputable def n0g (s:Sta) (x:Ser):Ser:=if LvX s x then i0u s.1 s.2.1 x else ser0
noncomputable def d1l (s:Sta):Sta:=(s.1,(s.2.1,(s.2.2.1,s.2.2.2.map (n0g s))))
theorem b2n {s:Sta} {x:Ser} (h:StaOk s):LvX (c1t s) x↔x≠ser0∧o0z s.1 x.2.1 s.2.1=false:=by
 have:=h.clock.1.1;constructor
 ·rintro ⟨h1,h2 | h2⟩
  ·exfalso;have h2:s.2.1 = -1:=h2;omega
  ·exact ⟨h1,h2⟩
 ·rintro ⟨h1,h2⟩;exact ⟨h1,.inr h2⟩
theorem f1b {a b w m:Int} (ha:OfP a w) (hb:OfP b w) (hab:a≤b) (hm:1≤m∧m≤4096):(oldV a w m).1≤(oldV b w m).1:=by
 unfold oldV;rw[if_pos (show OfP a w∧1≤m∧m≤4096 from ⟨ha,hm.1,hm.2⟩),if_pos (show OfP b w∧1≤m∧m≤4096 from ⟨hb,hm.1,hm.2⟩)];have:a / w≤b / w:=Int.ediv_le_ediv (by have:=ha.2.2.1;omega) hab;simp only;split<;>split<;>omega
theorem i1r {t a b w m:Int} (ha:OfP a w) (hb:OfP b w) (hab:a≤b) (hm:1≤m∧m≤4096) (h:r0u t a w m=true):r0u t b w m=true:=by
 unfold r0u at *
 have h:=of_decide_eq_true h;have:=f1b ha hb hab hm;exact decide_eq_true ⟨h.1,r0o hb hm,by omega⟩
theorem w1d {c:Conf} {t a b:Int} (ha:t0z a) (hb:t0z b) (hab:a≤b) (h:o0z c t a=true):o0z c t b=true:=by
 unfold o0z at *
 simp only[Bool.and_eq_true,decide_eq_true_eq] at h ⊢;obtain ⟨hc,h0,h1,h2⟩:=h;have hr:=hc.rng;exact ⟨hc,i1r ⟨ha.1,ha.2,hr.w0.1,hr.w0.2⟩ ⟨hb.1,hb.2,hr.w0.1,hr.w0.2⟩ hab hr.n0 h0,i1r ⟨ha.1,ha.2,hr.w1.1,hr.w1.2⟩ ⟨hb.1,hb.2,hr.w1.1,hr.w1.2⟩ hab hr.n1 h1,i1r ⟨ha.1,ha.2,hr.w2.1,hr.w2.2⟩ ⟨hb.1,hb.2,hr.w2.1,hr.w2.2⟩ hab hr.n2 h2⟩
theorem o1h {s:Sta} (h:StaOk s) {x:Ser} (hl:LvX (c1t s) x):LvX s x:=by
 obtain ⟨h1,h2⟩:=(b2n h).1 hl;refine ⟨h1,?_⟩;rcases h.clock.2.1 with k | k
 ·exact .inl k
 ·refine .inr ?_;cases hd:o0z s.1 x.2.1 s.2.2.1 with
  | false=>rfl
  | true=>rw[w1d k h.clock.1 h.clock.2.2 hd] at h2;cases h2
theorem b2m {s:Sta} (h:StaOk s):StaOk (c1t s):=by
 refine ⟨h.whole,⟨h.clock.1,.inr h.clock.1,Int.le_refl _⟩,fun i x hx => ?_⟩;rcases h.right i x hx with k | ⟨k1,k2,k3,k4⟩
 ·exact .inl k
 ·refine .inr ⟨k1,k2,k3,?_⟩;rintro ⟨q1,j,q2,y,q3,q4,q5⟩;exact k4 ⟨o1h h q1,j,q2,y,q3,o1h h q4,q5⟩
theorem p2g {c:Conf} {now:Int} {x:Ser} (h:SerOk c x):i0u c now x≠ser0:=by
 intro k;have:=h.lab.n0;have e:x.1=[]:=congrArg Prod.fst k;rw[e] at this;simp at this
theorem q1d {s:Sta} (h:StaOk s) {x:Ser} (hx:x∈s.2.2.2) (hl:LvX s x):SerOk s.1 x∧0≤x.2.1:=by
 obtain ⟨i,hi,e⟩:=List.getElem_of_mem hx;rcases h.right i x (by rw[List.getElem?_eq_getElem hi,e]) with k | k
 ·exact absurd k hl.1
 ·exact ⟨k.1,k.2.1⟩
theorem w1i {s:Sta} (h:StaOk s) {x:Ser} (hx:x∈s.2.2.2):LvX s (n0g s x)↔LvX s x:=by
 unfold n0g;by_cases hl:LvX s x
 ·rw[if_pos hl];exact ⟨fun _=>hl,fun _=>⟨p2g (q1d h hx hl).1,hl.2⟩⟩
 ·rw[if_neg hl];exact ⟨fun k=>absurd rfl k.1,fun k=>absurd k hl⟩
theorem d2u {s:Sta} (h:StaOk s):StaOk (d1l s):=by
 refine ⟨⟨h.whole.1,by simpa [d1l] using h.whole.2⟩,h.clock,fun i x hx => ?_⟩;have hx:(s.2.2.2.map (n0g s))[i]? = some x:=hx;rw[List.getElem?_map] at hx;cases hy:s.2.2.2[i]? with
 | none=>rw[hy] at hx;cases hx
 | some y =>
  rw[hy] at hx;simp only[Option.map_some,Option.some.injEq] at hx;by_cases hl:LvX s y
  ·have e:n0g s y=i0u s.1 s.2.1 y:=if_pos hl;rw[e] at hx;have hym:=List.mem_of_getElem? hy;rcases h.right i y hy with k | ⟨k1,k2,k3,k4⟩
   ·exact absurd k hl.1
   subst hx;refine .inr ⟨p2f k1,k2,k3,?_⟩;rintro ⟨q1,j,q2,z,q3,q4,q5⟩;have q3:(s.2.2.2.map (n0g s))[j]? = some z:=q3;rw[List.getElem?_map] at q3;cases hw:s.2.2.2[j]? with
   | none=>rw[hw] at q3;cases q3
   | some w =>
    rw[hw] at q3;simp only[Option.map_some,Option.some.injEq] at q3;have hwm:=List.mem_of_getElem? hw;have q4:LvX s z:=q4;rw[←q3] at q4 q5;have hlw:=(w1i h hwm).1 q4;have e2:n0g s w=i0u s.1 s.2.1 w:=if_pos hlw;rw[e2] at q5;exact k4 ⟨hl,j,q2,w,hw,hlw,q5⟩
  ·have e:n0g s y=ser0:=if_neg hl;rw[e] at hx;exact .inl hx.symm
theorem q1a {s:Sta} {i:Nat}:lvAt s i=true↔∃x,s.2.2.2[i]? = some x∧LvX s x:=by
 unfold lvAt;cases s.2.2.2[i]? with
 | none=>simp
 | some x=>simp
theorem o1a {c:Conf} (h:OkC c) (k:Int):1≤b0c c k∧b0c c k≤1099511627776∧1≤p0f c k∧p0f c k≤4096:=by
 have hr:=h.rng;have a0:=hr.w0;have a1:=hr.w1;have a2:=hr.w2;have b0:=hr.n0;have b1:=hr.n1;have b2:=hr.n2;unfold b0c p0f;split
 ·exact ⟨a0.1,a0.2,b0.1,b0.2⟩
 split
 ·exact ⟨a1.1,a1.2,b1.1,b1.2⟩
 ·exact ⟨a2.1,a2.2,b2.1,b2.2⟩
end Go.Proofs.YtojobamheigpbaaGreatDoor

namespace Go.Plim
set_option linter.unusedVariables false
def tz:Nat→Nat→Nat
 | 0,_=>0
 | k+1,x=>if x % 2=1 then 0 else tz k (x / 2)+1
theorem tz_odd (k x:Nat) (h:x % 2=1):tz k x=0:=by cases k<;>simp[tz,h]
theorem w0p:∀(k x:Nat),0<x→x<2^k→tz k x<k∧x=2^tz k x*(x / 2^tz k x)∧(x / 2^tz k x) % 2=1:=by
 intro k;induction k with
 | zero=>intro x h0 h1;simp at h1;omega
 | succ k ih =>
  intro x h0 h1;by_cases h:x % 2=1
  ·rw[tz_odd (k+1) x h];simp[h]
  ·have e:tz (k+1) x=tz k (x / 2)+1:=by simp[tz,h]
   rw[Nat.pow_succ] at h1;obtain ⟨a1,a2,a3⟩:=ih (x / 2) (by omega) (by omega);rw[e,Nat.pow_succ,Nat.mul_comm (2^tz k (x / 2)) 2,←Nat.div_div_eq_div_mul];refine ⟨by omega,?_,a3⟩;rw[Nat.mul_assoc,←a2];omega
theorem f1w {k x t:Nat} (h0:0<x) (h1:x<2^k) (h:x % 2^t=0) (ho:(x / 2^t) % 2=1):tz k x=t:=by
 obtain ⟨a1,a2,a3⟩:=w0p k x h0 h1;have b2:x=2^t*(x / 2^t):=by have:=Nat.div_add_mod x (2^t);omega
 generalize tz k x=s at *
 generalize hy:x / 2^s=y at *
 generalize hz:x / 2^t=z at *
 have e:2^s*y=2^t*z:=by omega
 have one:∀(s t y z:Nat),2^s*y=2^t*z→y % 2=1→z % 2=1→s<t→False:=by
  intro s t y z e hy hz hlt;obtain ⟨d,rfl⟩:∃d,t=s+(d+1):=⟨t-s-1,by omega⟩;rw[Nat.pow_add,Nat.mul_assoc] at e;have:=Nat.eq_of_mul_eq_mul_left (Nat.two_pow_pos s) e;rw[this,Nat.pow_succ,Nat.mul_comm (2^d) 2,Nat.mul_assoc,Nat.mul_mod_right] at hy;cases hy
 rcases Nat.lt_trichotomy s t with q | q | q
 ·exact (one s t y z e a3 ho q).elim
 ·exact q
 ·exact (one t s z y e.symm ho a3 q).elim
theorem z1x {a b:Nat} (ha:a % 2=1) (t:Nat):Nat.gcd a (2^t*b)=Nat.gcd a b:=by
 have hc:Nat.Coprime 2 a:=by
  unfold Nat.Coprime;rw[Nat.gcd_rec,ha];simp
 exact Nat.Coprime.gcd_mul_left_cancel_right b (Nat.Coprime.pow_left t hc)
theorem f1g {a b:Nat} (h:a≤b):Nat.gcd a (b-a)=Nat.gcd a b:=by
 have:=Nat.gcd_add_self_right (m:=a) (n:=b-a);rw[Nat.sub_add_cancel h] at this;exact this.symm
theorem n2p {x y s t a b:Nat} (hx:x=2^s*a) (hy:y=2^t*b) (ha:a % 2=1) (hb:b % 2=1):Nat.gcd x y=2^(min s t)*Nat.gcd a b:=by
 subst hx hy;rcases Nat.le_total s t with h | h
 ·rw[Nat.min_eq_left h];obtain ⟨d,rfl⟩:∃d,t=s+d:=⟨t-s,by omega⟩;rw[Nat.pow_add,Nat.mul_assoc,Nat.gcd_mul_left,z1x ha]
 ·rw[Nat.min_eq_right h];obtain ⟨d,rfl⟩:∃d,s=t+d:=⟨s-t,by omega⟩;rw[Nat.pow_add,Nat.mul_assoc,Nat.gcd_mul_left,Nat.gcd_comm (2^d*a),z1x hb,Nat.gcd_comm b a]
def bl:Nat→Nat→Nat
 | 0,_=>0
 | k+1,x=>if x=0 then 0 else bl k (x / 2)+1
theorem c1l (k:Nat):bl k 0=0:=by cases k<;>simp[bl]
theorem j0r:∀(k x:Nat),x<2^k→x<2^bl k x∧(0<x→0<bl k x∧2^(bl k x-1)≤x)∧bl k x≤k:=by
 intro k;induction k with
 | zero=>intro x h;simp[bl] at *;omega
 | succ k ih =>
  intro x h;by_cases h0:x=0
  ·subst h0;rw[c1l];simp
  ·have e:bl (k+1) x=bl k (x / 2)+1:=by simp[bl,h0]
   rw[Nat.pow_succ] at h;obtain ⟨a1,a2,a3⟩:=ih (x / 2) (by omega);rw[e];refine ⟨by rw[Nat.pow_succ];omega,fun _=>⟨by omega,?_⟩,by omega⟩;rw[Nat.add_sub_cancel];by_cases h1:x / 2=0
   ·rw[h1,c1l];simp;omega
   ·obtain ⟨b1,b2⟩:=a2 (by omega);have:2^bl k (x / 2)=2^(bl k (x / 2)-1)*2:=by rw[←Nat.pow_succ];congr 1;omega
    omega
theorem w1r {k x b:Nat} (h:x<2^k) (h0:0<x) (h1:2^b≤x) (h2:x<2^(b+1)):bl k x=b+1:=by
 obtain ⟨a1,a2,_⟩:=j0r k x h;obtain ⟨c1,c2⟩:=a2 h0;have d1:b<bl k x:=by
  rcases Nat.lt_or_ge b (bl k x) with q | q
  ·exact q
  ·have:=Nat.pow_le_pow_right (show 0<2 by decide) q;omega
 have d2:bl k x-1<b+1:=by
  rcases Nat.lt_or_ge (bl k x-1) (b+1) with q | q
  ·exact q
  ·have:=Nat.pow_le_pow_right (show 0<2 by decide) q;omega
 omega
end Go.Plim

namespace Go.Plim
set_option linter.unusedVariables false
def ofN (x:Nat):Wd:=(((x / 18446744073709551616:Nat):Int),((x % 18446744073709551616:Nat):Int))
theorem i1g (x:Nat):mkW (x:Int)=ofN x:=by
 unfold mkW ofN;rw[Prod.mk.injEq];constructor<;>omega
theorem ofN_of {a:Wd} (h:WdOk a):∃x:Nat,x<340282366920938463463374607431768211456∧a=ofN x∧wv a=x:=by
 obtain ⟨h1,h2⟩:=h0v h;obtain ⟨x,hx⟩:=Int.eq_ofNat_of_zero_le h1;exact ⟨x,by omega,by rw[←mkW_wv h,hx,i1g],hx⟩
theorem l1j (x:Nat):wv (ofN x)=x:=by rw[←i1g,c1p]
theorem o0a {x:Nat} (h:x<340282366920938463463374607431768211456):WdOk (ofN x):=by rw[←i1g];exact m1r (by omega) (by omega)
theorem ofN_zero (x:Nat):(decide ((ofN x).1=(0:Int))&&decide ((ofN x).2=(0:Int)))=decide (x=0):=by
 rw[←Bool.decide_and];apply decide_eq_decide.2;unfold ofN;simp only;omega
def od (x:Nat):Nat:=x / 2^tz 128 x
theorem o0w {x:Nat} (h0:0<x) (h1:x<340282366920938463463374607431768211456):tz 128 x<128∧x=2^tz 128 x*od x∧od x % 2=1 :=
 w0p 128 x h0 h1
theorem m2e {x:Nat} (h0:0<x) (h1:x<340282366920938463463374607431768211456):0<od x:=by
 have:=(o0w h0 h1).2.2;rcases Nat.eq_zero_or_pos (od x) with q | q
 ·rw[q] at this;cases this
 ·exact q
theorem od_le (x:Nat):od x≤x:=Nat.div_le_self _ _
theorem od_even {x:Nat} (h0:0<x) (h1:x<340282366920938463463374607431768211456) (he:x % 2=0):2*od x≤x:=by
 obtain ⟨_,a2,a3⟩:=o0w h0 h1;have ht:1≤tz 128 x:=by
  rcases Nat.eq_zero_or_pos (tz 128 x) with q | q
  ·rw[q] at a2;simp at a2;omega
  ·exact q
 have:2^1≤2^tz 128 x:=Nat.pow_le_pow_right (by decide) ht;have:=Nat.mul_le_mul_right (od x) this;omega
theorem n2q {a x:Nat} (ha:a % 2=1) (h0:0<x) (h1:x<340282366920938463463374607431768211456):Nat.gcd a (od x)=Nat.gcd a x:=by
 obtain ⟨_,a2,_⟩:=o0w h0 h1;have:=z1x (b:=od x) ha (tz 128 x);rw[←a2] at this;exact this.symm
theorem n2o {x y:Nat} (hx:0<x) (hx':x<340282366920938463463374607431768211456) (hy:0<y) (hy':y<340282366920938463463374607431768211456) :
  Nat.gcd x y=Nat.gcd (od x) y*2^(min (tz 128 x) (tz 128 y)):=by
 obtain ⟨_,a2,a3⟩:=o0w hx hx';obtain ⟨_,b2,b3⟩:=o0w hy hy';rw[n2p a2 b2 a3 b3,n2q a3 hy hy',Nat.mul_comm]
theorem or_pow {q k:Nat} (h:2^(k+1) ∣ q):q ||| 2^k=q+2^k:=by
 obtain ⟨m,rfl⟩:=h;exact (Nat.two_pow_add_eq_or_of_lt (i:=k+1) (b:=2^k) (by rw[Nat.pow_succ];have:=Nat.two_pow_pos k;omega) m).symm
theorem div_part {a d k q:Nat} (hd:0<d) (h:d*2^k≤a):q+2^k+(a-d*2^k) / d=q+a / d:=by
 have e:a=(a-d*2^k)+d*2^k:=by omega
 have:a / d=(a-d*2^k) / d+2^k:=by
  conv=>lhs;rw[e]
  rw[Nat.add_mul_div_left _ _ hd]
 omega
theorem half_up {x k:Nat} (hk:k<64) (h:x*2^k<340282366920938463463374607431768211456) :
  x / 18446744073709551616*2^k+x % 18446744073709551616 / 2^(64-k)=x*2^k / 18446744073709551616∧x % 18446744073709551616 / 2^(64-k)<2^k ∧
  x % 18446744073709551616*2^k % 18446744073709551616=x*2^k % 18446744073709551616:=by
 have e:18446744073709551616=2^(64-k)*2^k:=by rw[←Nat.pow_add,show 64-k+k=64 by omega]
 have hp:=Nat.two_pow_pos k;have hq:=Nat.two_pow_pos (64-k);have h0:=Nat.div_add_mod x 18446744073709551616;have h1:=Nat.mod_lt x (show 0<18446744073709551616 by decide);generalize x / 18446744073709551616=H at *
 generalize x % 18446744073709551616=L at *
 subst h0;have e1:(18446744073709551616*H+L)*2^k=L*2^k+18446744073709551616*(H*2^k):=by rw[Nat.add_mul,Nat.mul_assoc];omega
 have e2:L*2^k / 18446744073709551616=L / 2^(64-k):=by
  conv=>lhs;rw[e]
  exact Nat.mul_div_mul_right _ _ hp
 refine ⟨?_,?_,?_⟩
 ·rw[e1,Nat.add_mul_div_left _ _ (by decide),e2];omega
 ·exact Nat.div_lt_of_lt_mul (by rw[←e];exact h1)
 ·rw[e1,Nat.add_mul_mod_self_left]
theorem n2n {x k:Nat} (hk:k<64) (h:x<340282366920938463463374607431768211456) :
  x / 18446744073709551616 / 2^k=x / 2^k / 18446744073709551616 ∧
  x % 18446744073709551616 / 2^k+x / 18446744073709551616*2^(64-k) % 18446744073709551616=x / 2^k % 18446744073709551616∧x % 18446744073709551616 / 2^k<2^(64-k) ∧
  ∃m,x / 18446744073709551616*2^(64-k) % 18446744073709551616=2^(64-k)*m:=by
 have e:18446744073709551616=2^k*2^(64-k):=by rw[←Nat.pow_add,show k+(64-k)=64 by omega]
 have hp:=Nat.two_pow_pos k;have hq:=Nat.two_pow_pos (64-k);have c1:x / 18446744073709551616 / 2^k=x / 2^k / 18446744073709551616:=by rw[Nat.div_div_eq_div_mul,Nat.div_div_eq_div_mul,Nat.mul_comm]
 have h0:=Nat.div_add_mod x 18446744073709551616;have h1:=Nat.mod_lt x (show 0<18446744073709551616 by decide);have hm0:∀H:Nat,H*2^(64-k) % 18446744073709551616=2^(64-k)*(H % 2^k):=by
  intro H
  conv=>lhs;rw[e]
  rw[Nat.mul_mod_mul_right,Nat.mul_comm]
 have hm:=hm0 (x / 18446744073709551616);have c3:x % 18446744073709551616 / 2^k<2^(64-k):=Nat.div_lt_of_lt_mul (by rw[←e];exact h1);refine ⟨c1,?_,c3,_,hm⟩;rw[hm];generalize x / 18446744073709551616=H at *
 generalize x % 18446744073709551616=L at *
 subst h0;have e1:(18446744073709551616*H+L) / 2^k=L / 2^k+2^(64-k)*H:=by
  conv=>lhs;rw[e]
  rw[Nat.mul_assoc,Nat.add_comm,Nat.add_mul_div_left _ _ hp]
 have h2:=Nat.div_add_mod H (2^k);have e2:2^(64-k)*H=18446744073709551616*(H / 2^k)+2^(64-k)*(H % 2^k):=by
  conv=>lhs;rw[←h2]
  rw[Nat.mul_add,←Nat.mul_assoc,Nat.mul_comm (2^(64-k)),←e]
 rw[e1,e2];have hlt:L / 2^k+2^(64-k)*(H % 2^k)<18446744073709551616:=by
  have h3:=Nat.mod_lt H hp;have h4:2^(64-k)*(H % 2^k+1)≤2^(64-k)*2^k:=Nat.mul_le_mul_left _ h3;rw[Nat.mul_comm (2^(64-k)) (2^k),←e,Nat.mul_add,Nat.mul_one] at h4;omega
 omega
end Go.Plim
