/-
 Plain proofs about the functions of this seat, part 2 of 3.
-/
import Derived.Test.YtojobamheigpbaaGreatDoorQ1
import Derived.Test.YtojobamheigpbaaGreatDoorTr
import Derived.Test.YtojobamheigpbaaGreatDoorFlatM3
namespace Go.Proofs.YtojobamheigpbaaGreatDoor
open Go.Flat
abbrev Conf:=Int×((Int×(Int×Int))×((Int×(Int×Int))×(Int×Int)))
def prt (n e:Int):Int:=(n+e-1) / e
def plc (c:Conf):Int:=1+prt c.1 16+prt c.2.2.1.1 4+prt c.2.2.1.2.1 4+prt c.2.2.1.2.2 4
structure Rng (c:Conf):Prop where
 raw:1≤c.1∧c.1≤4096
 cap:1≤c.2.2.2.1∧c.2.2.2.1≤65536
 log:1≤c.2.2.2.2∧c.2.2.2.2≤8192
 w0:1≤c.2.1.1∧c.2.1.1≤1099511627776
 w1:1≤c.2.1.2.1∧c.2.1.2.1≤1099511627776
 w2:1≤c.2.1.2.2∧c.2.1.2.2≤1099511627776
 n0:1≤c.2.2.1.1∧c.2.2.1.1≤4096
 n1:1≤c.2.2.1.2.1∧c.2.2.1.2.1≤4096
 n2:1≤c.2.2.1.2.2∧c.2.2.1.2.2≤4096
structure OkC (c:Conf):Prop where
 rng:Rng c
 m1:c.2.1.2.1 % c.2.1.1=0
 d1:c.2.1.2.1 / c.2.1.1≤c.2.2.1.1
 m2:c.2.1.2.2 % c.2.1.2.1=0
 d2:c.2.1.2.2 / c.2.1.2.1≤c.2.2.1.2.1
 pl:plc c<c.2.2.2.2
theorem o0g (n:Nat) (x e:Int) (he:1≤e) (he':e≤1000) (hx:0≤x) (hx':x≤1000000000):g0w (n+1) x e=some (prt x e):=by
 rw[h1o];have h1:¬(e=0):=by omega
 simp only[tfd,if_neg h1];rw[w64 (x:=x+e) (by omega) (by omega),w64 (x:=x+e-1) (by omega) (by omega),r0e (by omega)];have h2:0≤(x+e-1) / e:=Int.ediv_nonneg (by omega) (by omega);have h3:(x+e-1) / e≤x+e-1:=Int.ediv_le_self _ (by omega);rw[w64 (by omega) (by omega)];rfl
theorem g0e {x e:Int} (he:1≤e) (hx:0≤x):0≤prt x e∧prt x e≤x:=by
 unfold prt;refine ⟨Int.ediv_nonneg (by omega) (by omega),?_⟩;have:x+e-1<(x+1)*e:=by
  have:=Int.mul_le_mul_of_nonneg_left he (show 0≤x by omega);rw[Int.add_mul];omega
 have:=Int.ediv_lt_of_lt_mul (by omega) this;omega
theorem y1j {c:Conf} (h:Rng c):1≤plc c∧plc c≤20000:=by
 have a:=g0e (x:=c.1) (e:=16) (by omega) (by have:=h.raw;omega);have b:=g0e (x:=c.2.2.1.1) (e:=4) (by omega) (by have:=h.n0;omega);have d:=g0e (x:=c.2.2.1.2.1) (e:=4) (by omega) (by have:=h.n1;omega);have f:=g0e (x:=c.2.2.1.2.2) (e:=4) (by omega) (by have:=h.n2;omega);have:=h.raw;have:=h.n0;have:=h.n1;have:=h.n2;unfold plc;omega
theorem z0n (n:Nat) {c:Conf} (h:Rng c):g0v (n+2) c=some (plc c):=by
 have h0:=h.raw;have h1:=h.n0;have h2:=h.n1;have h3:=h.n2;rw[h1m,o0g n _ 16 (by omega) (by omega) (by omega) (by omega),o0g n _ 4 (by omega) (by omega) (by omega) (by omega),o0g n _ 4 (by omega) (by omega) (by omega) (by omega),o0g n _ 4 (by omega) (by omega) (by omega) (by omega)];simp only[obs];have a:=g0e (x:=c.1) (e:=16) (by omega) (by omega);have b:=g0e (x:=c.2.2.1.1) (e:=4) (by omega) (by omega);have d:=g0e (x:=c.2.2.1.2.1) (e:=4) (by omega) (by omega);have f:=g0e (x:=c.2.2.1.2.2) (e:=4) (by omega) (by omega)
 rw[w64 (x:=1+_) (by omega) (by omega),w64 (x:=1+_+_) (by omega) (by omega),w64 (x:=1+_+_+_) (by omega) (by omega),w64 (by omega) (by omega)];rfl
theorem in_int (n:Nat) (x a b:Int):e0m (n+1) x a b=some (decide (a≤x∧x≤b)):=by
 rw[c1g];by_cases h1:a≤x<;>by_cases h2:x≤b<;>simp[h1,h2]
theorem r1s (n:Nat) (x a b:Int):g0i (n+1) x a b=some (decide (a≤x∧x≤b)):=by
 rw[x0m];by_cases h1:a≤x<;>by_cases h2:x≤b<;>simp[h1,h2]
theorem u1k {a b:Int} (ha:1≤a∧a≤1099511627776) (hb:1≤b):IntKind.wrap .i64 (Int.tdiv a b)=a / b:=by
 rw[r0e (by omega)];have h2:0≤a / b:=Int.ediv_nonneg (by omega) (by omega);have h3:a / b≤a:=Int.ediv_le_self _ (by omega);rw[w64 (by omega) (by omega)]
theorem u0a (n:Nat) {c:Conf} (h:OkC c):c0o (n+3) c=some 0:=by
 obtain ⟨hr,m1,d1,m2,d2,pl⟩:=h;have hp:=z0n n hr;obtain ⟨raw,cap,log,w0,w1,w2,n0,n1,n2⟩:=hr;rw[t0y];simp only[in_int,r1s,obs,tfd,if_pos raw,if_pos cap,if_pos log,if_pos w0,if_pos w1,if_pos w2,if_pos n0,if_pos n1,if_pos n2];have z0:¬(c.2.1.1=0):=by omega
 have z1:¬(c.2.1.2.1=0):=by omega
 rw[u1k w1 w0.1,u1k w2 w1.1,n0v (a:=c.2.1.2.1) (by omega),n0v (a:=c.2.1.2.2) (by omega)];have l:¬(c.2.2.2.2≤plc c):=by omega
 simp only[if_neg z0,if_neg z1,if_pos m1,if_pos d1,if_pos m2,if_pos d2,tfn,tfd,hp,obs,if_neg l]
theorem s1k (n:Nat) {c:Conf} (h:¬OkC c):c0o (n+3) c=some 2:=by
 rw[t0y];simp only[in_int,r1s,obs,tfd,tfn];by_cases raw:1≤c.1∧c.1≤4096
 case neg=>rw[if_neg raw]
 rw[if_pos raw];by_cases cap:1≤c.2.2.2.1∧c.2.2.2.1≤65536
 case neg=>rw[if_neg cap]
 rw[if_pos cap];by_cases log:1≤c.2.2.2.2∧c.2.2.2.2≤8192
 case neg=>rw[if_neg log]
 rw[if_pos log];by_cases w0:1≤c.2.1.1∧c.2.1.1≤1099511627776
 case neg=>rw[if_neg w0]
 rw[if_pos w0];by_cases n0:1≤c.2.2.1.1∧c.2.2.1.1≤4096
 case neg=>rw[if_neg n0]
 rw[if_pos n0];by_cases w1:1≤c.2.1.2.1∧c.2.1.2.1≤1099511627776
 case neg=>rw[if_neg w1]
 rw[if_pos w1];by_cases n1:1≤c.2.2.1.2.1∧c.2.2.1.2.1≤4096
 case neg=>rw[if_neg n1]
 rw[if_pos n1];by_cases w2:1≤c.2.1.2.2∧c.2.1.2.2≤1099511627776
 case neg=>rw[if_neg w2]
 rw[if_pos w2];by_cases n2:1≤c.2.2.1.2.2∧c.2.2.1.2.2≤4096
 case neg=>rw[if_neg n2,if_neg n2]
 rw[if_pos n2];have hr:Rng c:=⟨raw,cap,log,w0,w1,w2,n0,n1,n2⟩;have hp:=z0n n hr;have z0:¬(c.2.1.1=0):=by omega
 have z1:¬(c.2.1.2.1=0):=by omega
 rw[u1k w1 w0.1,u1k w2 w1.1,n0v (a:=c.2.1.2.1) (by omega),n0v (a:=c.2.1.2.2) (by omega)];rw[if_neg z0,if_neg z0];by_cases m1:c.2.1.2.1 % c.2.1.1=0
 case neg=>rw[if_neg m1]
 rw[if_pos m1];by_cases d1:c.2.1.2.1 / c.2.1.1≤c.2.2.1.1
 case neg=>rw[if_neg d1,if_neg d1]
 rw[if_pos d1,if_neg z1,if_neg z1];by_cases m2:c.2.1.2.2 % c.2.1.2.1=0
 case neg=>rw[if_neg m2]
 rw[if_pos m2];by_cases d2:c.2.1.2.2 / c.2.1.2.1≤c.2.2.1.2.1
 case neg=>rw[if_neg d2,if_neg d2]
 rw[if_pos d2,if_pos d2,hp];simp only[obs];by_cases pl:c.2.2.2.2≤plc c
 ·rw[if_pos pl]
 ·exact absurd ⟨hr,m1,d1,m2,d2,by omega⟩ h
end Go.Proofs.YtojobamheigpbaaGreatDoor
namespace Go.Proofs.YtojobamheigpbaaGreatDoor
open Go.Flat Go.Plim
set_option linter.unusedVariables false
abbrev Trs:=List Slo×(List Slo×List Slo)
noncomputable instance (c:Conf):Decidable (OkC c):=Classical.propDecidable _
structure FoldOk (c:Conf) (s:Trs):Prop where
 cok:OkC c
 n0:(s.1.length:Int)=c.2.2.1.1
 n1:(s.2.1.length:Int)=c.2.2.1.2.1
 n2:(s.2.2.length:Int)=c.2.2.1.2.2
 t0:TierOk s.1 c.2.1.1
 t1:TierOk s.2.1 c.2.1.2.1
 t2:TierOk s.2.2 c.2.1.2.2
noncomputable instance (c:Conf) (s:Trs):Decidable (FoldOk c s):=Classical.propDecidable _
def mk1 (c:Conf) (s:Trs) (i:Int):Cel×Int:=tfold s.1 (i*(c.2.1.2.1 / c.2.1.1)) ((i+1)*(c.2.1.2.1 / c.2.1.1))
def mk2 (c:Conf) (s:Trs) (i:Int):Cel×Int:=tfold s.2.1 (i*(c.2.1.2.2 / c.2.1.2.1)) ((i+1)*(c.2.1.2.2 / c.2.1.2.1))
noncomputable def up1 (c:Conf) (s:Trs) (i j:Int):Trs :=
 if i*c.2.1.1 / c.2.1.2.1=j*c.2.1.1 / c.2.1.2.1 then s
 else if (mk1 c s (i*c.2.1.1 / c.2.1.2.1)).2=0∧FitsP (mk1 c s (i*c.2.1.1 / c.2.1.2.1)).1 c.2.1.2.1 (i*c.2.1.1 / c.2.1.2.1) then (s.1,(tput s.2.1 (i*c.2.1.1 / c.2.1.2.1) (mk1 c s (i*c.2.1.1 / c.2.1.2.1)).1,s.2.2))
 else s
noncomputable def up2 (c:Conf) (s:Trs) (i j:Int):Trs :=
 if i*c.2.1.1 / c.2.1.2.2=j*c.2.1.1 / c.2.1.2.2 then s
 else if (mk2 c s (i*c.2.1.1 / c.2.1.2.2)).2=0∧FitsP (mk2 c s (i*c.2.1.1 / c.2.1.2.2)).1 c.2.1.2.2 (i*c.2.1.1 / c.2.1.2.2) then (s.1,(s.2.1,tput s.2.2 (i*c.2.1.1 / c.2.1.2.2) (mk2 c s (i*c.2.1.1 / c.2.1.2.2)).1))
 else s
noncomputable def upw (c:Conf) (s:Trs) (i j:Int):Trs:=up2 c (up1 c s i j) i j
theorem i1s {c:Conf} {s:Trs} (h:FoldOk c s) (i j:Int):FoldOk c (up1 c s i j):=by
 unfold up1;split
 ·exact h
 ·split
  ·rename_i k;exact ⟨h.cok,h.n0,by simpa [tput] using h.n1,h.n2,h.t0,y0q h.t1 k.2,h.t2⟩
  ·exact h
theorem up2_ok {c:Conf} {s:Trs} (h:FoldOk c s) (i j:Int):FoldOk c (up2 c s i j):=by
 unfold up2;split
 ·exact h
 ·split
  ·rename_i k;exact ⟨h.cok,h.n0,h.n1,by simpa [tput] using h.n2,h.t0,h.t1,y0q h.t2 k.2⟩
  ·exact h
theorem upw_ok {c:Conf} {s:Trs} (h:FoldOk c s) (i j:Int):FoldOk c (upw c s i j):=up2_ok (i1s h i j) i j
theorem u1w {a w m:Int} (hw:1≤w) (h:a≤m / w):a*w≤m :=
 Int.le_trans (Int.mul_le_mul_of_nonneg_right h (by omega)) (Int.ediv_mul_le m (by omega))
def f0w (w i:Int):Prop:=0≤i∧i≤35184372088831 / w
instance (w i:Int):Decidable (f0w w i):=by unfold f0w;infer_instance
theorem f0w.mul {w i:Int} (hw:1≤w) (h:f0w w i):0≤i*w∧i*w≤35184372088831:=⟨Int.mul_nonneg h.1 (by omega),u1w hw h.2⟩
theorem d1t {x w:Int} (hw:1≤w) (h:0≤x∧x≤35184372088831):f0w w (x / w):=⟨Int.ediv_nonneg h.1 (by omega),Int.ediv_le_ediv (by omega) h.2⟩
theorem m1b {w i:Int} (hw:1≤w) (h:f0w w i):i≤35184372088831:=by
 have:=Int.ediv_le_self w (a:=35184372088831) (by decide);have:=h.2;omega
theorem u1x {a b i:Int} (ha:1≤a∧a≤1099511627776) (hb:1≤b∧b≤1099511627776) (hm:b % a=0) (h:f0w b i) :
  1≤b / a∧b / a≤1099511627776∧b / a*a=b∧0≤i*(b / a)∧i*(b / a)≤35184372088831∧(i+1)*(b / a)=i*(b / a)+b / a:=by
 have e:b / a*a=b:=by have:=Int.mul_ediv_add_emod b a;rw[Int.mul_comm];omega
 have h0:0≤b / a:=Int.ediv_nonneg (by omega) (by omega);have h1:b / a≤b:=Int.ediv_le_self _ (by omega);have h2:1≤b / a:=by
  rcases Int.lt_or_le 0 (b / a) with k | k
  ·omega
  ·have:b / a=0:=by omega
   rw[this] at e;omega
 have hi:=h.mul hb.1;have h3:0≤i*(b / a):=Int.mul_nonneg h.1 h0;have h4:i*(b / a)≤i*b:=Int.mul_le_mul_of_nonneg_left h1 h.1;exact ⟨h2,by omega,e,h3,by omega,by rw[Int.add_mul,Int.one_mul]⟩
end Go.Proofs.YtojobamheigpbaaGreatDoor
namespace Go.Proofs.YtojobamheigpbaaGreatDoor
open Go.Flat Go.Plim
set_option linter.unusedVariables false
set_option linter.unusedSimpArgs false
structure TrsW (s:Trs):Prop where
 a:∀x∈s.1,SloW x
 b:∀x∈s.2.1,SloW x
 c:∀x∈s.2.2,SloW x
theorem FoldOk.w {c:Conf} {s:Trs} (h:FoldOk c s):TrsW s:=⟨p0f h.t0,p0f h.t1,p0f h.t2⟩
theorem l0y (n:Nat) (c:Conf):c0o (n+3) c=some (if OkC c then 0 else 2):=by
 by_cases h:OkC c
 ·rw[if_pos h,u0a n h]
 ·rw[if_neg h,s1k n h]
theorem t0q (n:Nat) (c:Conf) {s:Trs} (hw:TrsW s):t0r (n+8) c s=some (if FoldOk c s then (some (c,s),0) else (none,2)):=by
 rw[l1d,l0y (n+4),p0c n _ _ hw.a,p0c n _ _ hw.b,p0c n _ _ hw.c];simp only[obs,tfn,tfd];by_cases h0:OkC c
 case neg=>rw[if_neg (mt (z02 _).1 h0),if_neg h0,if_neg (fun k:FoldOk c s=>h0 k.cok)]
 rw[if_pos ((z02 _).2 h0)];by_cases h1:(s.1.length:Int)=c.2.2.1.1
 case neg=>rw[if_neg h1,if_neg (fun k:FoldOk c s=>h1 k.n0)]
 rw[if_pos h1];by_cases h2:TierOk s.1 c.2.1.1
 case neg=>rw[if_neg (mt (z02 _).1 h2),if_neg (fun k:FoldOk c s=>h2 k.t0)]
 rw[if_pos ((z02 _).2 h2)];by_cases h3:(s.2.1.length:Int)=c.2.2.1.2.1
 case neg=>rw[if_neg h3,if_neg (fun k:FoldOk c s=>h3 k.n1)]
 rw[if_pos h3];by_cases h4:TierOk s.2.1 c.2.1.2.1
 case neg=>rw[if_neg (mt (z02 _).1 h4),if_neg (fun k:FoldOk c s=>h4 k.t1)]
 rw[if_pos ((z02 _).2 h4)];by_cases h5:(s.2.2.length:Int)=c.2.2.1.2.2
 case neg=>rw[if_neg h5,if_neg (fun k:FoldOk c s=>h5 k.n2)]
 rw[if_pos h5];by_cases h6:TierOk s.2.2 c.2.1.2.2
 case neg=>rw[if_neg (mt (z02 _).1 h6),if_neg (fun k:FoldOk c s=>h6 k.t2)]
 rw[if_pos ((z02 _).2 h6),if_pos (⟨h0,h1,h3,h5,h2,h4,h6⟩:FoldOk c s)]
theorem v1j (n:Nat) (c:Conf) {s:Trs} (hw:TrsW s):v0q (n+9) c s=some (if FoldOk c s then 0 else 2):=by
 rw[g1j,t0q n c hw];by_cases h:FoldOk c s
 ·rw[if_pos h,if_pos h];rfl
 ·rw[if_neg h,if_neg h];rfl
noncomputable def emp (c:Conf):Trs:=if OkC c then (List.replicate c.2.2.1.1.toNat s0,(List.replicate c.2.2.1.2.1.toNat s0,List.replicate c.2.2.1.2.2.toNat s0)) else ([],([],[]))
theorem v1h (n:Nat) (c:Conf):v0o (n+4) c=some (emp c):=by
 rw[g1h,l0y n];simp only[obs,tfn,tfd,tier_new];unfold emp;by_cases h:OkC c
 ·have h0:=h.rng.n0;have h1:=h.rng.n1;have h2:=h.rng.n2;rw[if_pos ((z02 _).2 h),if_pos h,if_pos h0,if_pos h1,if_pos h2]
 ·rw[if_neg (mt (z02 _).1 h),if_neg h]
theorem quo_top {w:Int} (hw:1≤w):IntKind.wrap .i64 (Int.tdiv 35184372088831 w)=35184372088831 / w:=by
 have:0≤(35184372088831:Int) / w:=Int.ediv_nonneg (by decide) (by omega);have:(35184372088831:Int) / w≤35184372088831:=Int.ediv_le_self _ (by decide);rw[r0e (by decide),w64 (by omega) (by omega)]
theorem begins_0 (n:Nat) (c:Conf) (s:Trs) (h:1≤c.2.1.1) (i:Int):n0h (n+1) (c,s) 0 i=some (decide (f0w c.2.1.1 i),(c,s)):=by
 rw[x0k];simp only[tfd,if_neg (show ¬(c.2.1.1=0) by omega),quo_top h];by_cases h0:(0:Int)≤i
 ·rw[if_pos h0];refine congrArg (fun b=>some (b,(c,s))) (decide_eq_decide.2 ⟨fun k=>⟨h0,k⟩,fun k=>k.2⟩)
 ·rw[if_neg h0,decide_eq_false (fun k:f0w c.2.1.1 i=>h0 k.1)]
theorem allE_okc (l:List Cel):∀c,b0u c→b0u (allE c l).1:=by
 induction l with
 | nil=>intro c h;exact h
 | cons x l ih =>
  intro c h;simp only[allE];split
  ·rename_i k;exact ih _ (o1p k).2.2.2.2
  ·exact u1t
theorem j1a (l:List Slo) (i k:Int):b0u (tfold l i k).1:=by
 unfold tfold;split
 ·exact u1t
 ·exact allE_okc _ _ u1t
theorem d1i {a b i:Int} (ha:1≤a∧a≤1099511627776) (hb:1≤b∧b≤1099511627776) (hm:b % a=0) (h:f0w b i) :
  IntKind.wrap .i64 (i*(b / a))=i*(b / a)∧IntKind.wrap .i64 ((IntKind.wrap .i64 (i+1))*(b / a))=(i+1)*(b / a):=by
 obtain ⟨h1,h2,h3,h4,h5,h6⟩:=u1x ha hb hm h;have:=m1b hb.1 h;have:=h.1;rw[w64 (x:=i+1) (by omega) (by omega),h6,w64 (by omega) (by omega),w64 (by omega) (by omega)];exact ⟨rfl,rfl⟩
theorem v1g (n:Nat) {c:Conf} {s:Trs} (h:FoldOk c s) {i:Int} (hb:f0w c.2.1.2.1 i):f0j (n+19) (c,s) 1 i=some ((mk1 c s i).1,((mk1 c s i).2,(c,s))):=by
 have hr:=h.cok.rng;obtain ⟨e1,e2⟩:=d1i hr.w0 hr.w1 h.cok.m1 hb;rw[c1b];simp only[tfd,if_neg (show ¬(c.2.1.1=0) by have:=hr.w0;omega),u1k hr.w1 hr.w0.1,e1,e2,i1w n h.t0,obs];rfl
theorem v1f (n:Nat) {c:Conf} {s:Trs} (h:FoldOk c s) {i:Int} (hb:f0w c.2.1.2.2 i):f0j (n+19) (c,s) 2 i=some ((mk2 c s i).1,((mk2 c s i).2,(c,s))):=by
 have hr:=h.cok.rng;obtain ⟨e1,e2⟩:=d1i hr.w1 hr.w2 h.cok.m2 hb;rw[b1z];simp only[tfd,if_neg (show ¬(c.2.1.2.1=0) by have:=hr.w1;omega),u1k hr.w2 hr.w1.1,e1,e2,i1w n h.t1,obs];rfl
theorem a2u (n:Nat) {c:Conf} {s:Trs} (h:FoldOk c s) (i:Int) {x:Cel} (hx:CelW x):e0f (n+9) (c,s) 0 i x=some (if FitsP x c.2.1.1 i then (0,(c,(tput s.1 i x,s.2))) else (2,(c,s))):=by
 rw[g1p,e1k n _ _ (p0f h.t0) hx];simp only[obs,tfd];by_cases hf:FitsP x c.2.1.1 i
 ·rw[if_pos (And.intro h.t0 hf),if_pos hf];rfl
 ·have hn:¬(TierOk s.1 c.2.1.1∧FitsP x c.2.1.1 i):=fun k=>hf k.2
  rw[if_neg hn,if_neg hf];rfl
theorem a2t (n:Nat) {c:Conf} {s:Trs} (h:FoldOk c s) (i:Int) {x:Cel} (hx:CelW x):e0f (n+9) (c,s) 1 i x=some (if FitsP x c.2.1.2.1 i then (0,(c,(s.1,(tput s.2.1 i x,s.2.2)))) else (2,(c,s))):=by
 rw[g1n,e1k n _ _ (p0f h.t1) hx];simp only[obs,tfd];by_cases hf:FitsP x c.2.1.2.1 i
 ·rw[if_pos (And.intro h.t1 hf),if_pos hf];rfl
 ·have hn:¬(TierOk s.2.1 c.2.1.2.1∧FitsP x c.2.1.2.1 i):=fun k=>hf k.2
  rw[if_neg hn,if_neg hf];rfl
theorem a2s (n:Nat) {c:Conf} {s:Trs} (h:FoldOk c s) (i:Int) {x:Cel} (hx:CelW x):e0f (n+9) (c,s) 2 i x=some (if FitsP x c.2.1.2.2 i then (0,(c,(s.1,(s.2.1,tput s.2.2 i x)))) else (2,(c,s))):=by
 rw[g1m,e1k n _ _ (p0f h.t2) hx];simp only[obs,tfd];by_cases hf:FitsP x c.2.1.2.2 i
 ·rw[if_pos (And.intro h.t2 hf),if_pos hf];rfl
 ·have hn:¬(TierOk s.2.2 c.2.1.2.2∧FitsP x c.2.1.2.2 i):=fun k=>hf k.2
  rw[if_neg hn,if_neg hf];rfl
theorem p0q {a w i j:Int} (ha:1≤a) (hw:1≤w) (h0:0≤i) (hij:i≤j) (hj:f0w a j) :
  IntKind.wrap .i64 (Int.tdiv (IntKind.wrap .i64 (i*a)) w)=i*a / w∧f0w w (i*a / w):=by
 have hm:=hj.mul ha;have h1:0≤i*a:=Int.mul_nonneg h0 (by omega);have h2:i*a≤j*a:=Int.mul_le_mul_of_nonneg_right hij (by omega);have h3:0≤i*a / w:=Int.ediv_nonneg h1 (by omega);have h4:i*a / w≤i*a:=Int.ediv_le_self _ h1;rw[w64 (x:=i*a) (by omega) (by omega),r0e h1,w64 (by omega) (by omega)];exact ⟨rfl,d1t hw ⟨h1,by omega⟩⟩
theorem x1n (n:Nat) {c:Conf} {s:Trs} (h:FoldOk c s) {i j:Int} (h0:0≤i) (hij:i≤j) (hj:f0w c.2.1.1 j) :
  (tif (decide (IntKind.wrap .i64 (Int.tdiv (IntKind.wrap .i64 (i*c.2.1.1)) c.2.1.2.2)=IntKind.wrap .i64 (Int.tdiv (IntKind.wrap .i64 (j*c.2.1.1)) c.2.1.2.2))) (some (c,s))
   (a0a (f0j (n+19) (c,s) (2:Int) (IntKind.wrap .i64 (Int.tdiv (IntKind.wrap .i64 (i*c.2.1.1)) c.2.1.2.2))) fun r0 =>
    tif (decide (r0.2.1=(0:Int))) (tif (decide ((0:Int)<r0.1.1)) (a0a (e0f (n+19) r0.2.2 (2:Int) (IntKind.wrap .i64 (Int.tdiv (IntKind.wrap .i64 (i*c.2.1.1)) c.2.1.2.2)) r0.1) fun r1=>some r1.2) (some r0.2.2)) (some r0.2.2)))=some (c,up2 c s i j):=by
 have hr:=h.cok.rng;have hjj:0≤j:=hj.1;obtain ⟨e1,b1⟩:=p0q hr.w0.1 hr.w2.1 h0 hij hj;obtain ⟨e2,_⟩:=p0q hr.w0.1 hr.w2.1 hjj (Int.le_refl j) hj;rw[e1,e2,v1f n h b1];simp only[obs,tfd];unfold up2;by_cases c1:i*c.2.1.1 / c.2.1.2.2=j*c.2.1.1 / c.2.1.2.2
 ·rw[if_pos c1,if_pos c1]
 rw[if_neg c1,if_neg c1];generalize i*c.2.1.1 / c.2.1.2.2=a at *
 have hok:b0u (mk2 c s a).1:=j1a _ _ _;by_cases c2:(mk2 c s a).2=0
 ·rw[if_pos c2];by_cases c3:0<(mk2 c s a).1.1
  ·rw[if_pos c3,a2s (n+10) h a (CelW.of hok)];by_cases c4:FitsP (mk2 c s a).1 c.2.1.2.2 a
   ·rw[if_pos c4,if_pos (And.intro c2 c4)];rfl
   ·rw[if_neg c4,if_neg (fun k=>c4 k.2)];rfl
  ·rw[if_neg c3,if_neg (fun k=>c3 (by have:=k.2.n.n1;omega))]
 ·rw[if_neg c2,if_neg (fun k=>c2 k.1)]
theorem fold_up (n:Nat) {c:Conf} {s:Trs} (h:FoldOk c s) {i j:Int} (h0:0≤i) (hij:i≤j) (hj:f0w c.2.1.1 j):g1l (n+20) (c,s) i j=some (c,upw c s i j):=by
 have hr:=h.cok.rng;have hjj:0≤j:=hj.1;obtain ⟨e1,b1⟩:=p0q hr.w0.1 hr.w1.1 h0 hij hj;obtain ⟨e2,_⟩:=p0q hr.w0.1 hr.w1.1 hjj (Int.le_refl j) hj;have z1:¬(c.2.1.2.1=0):=by have:=hr.w1;omega
 have z2:¬(c.2.1.2.2=0):=by have:=hr.w2;omega
 rw[v1t];simp only[e1,e2,decide_eq_false z1,decide_eq_false z2,tff,v1g n h b1,obs,x1n n h h0 hij hj];unfold upw;simp only[tfd];by_cases c1:i*c.2.1.1 / c.2.1.2.1=j*c.2.1.1 / c.2.1.2.1
 ·have:up1 c s i j=s:=by unfold up1;rw[if_pos c1]
  rw[if_pos c1,this]
 rw[if_neg c1];have e3:up1 c s i j=if (mk1 c s (i*c.2.1.1 / c.2.1.2.1)).2=0∧FitsP (mk1 c s (i*c.2.1.1 / c.2.1.2.1)).1 c.2.1.2.1 (i*c.2.1.1 / c.2.1.2.1) then (s.1,(tput s.2.1 (i*c.2.1.1 / c.2.1.2.1) (mk1 c s (i*c.2.1.1 / c.2.1.2.1)).1,s.2.2)) else s:=by
  unfold up1;rw[if_neg c1]
 have hk:=i1s h i j;rw[e3] at hk ⊢;generalize i*c.2.1.1 / c.2.1.2.1=a at *
 have hok:b0u (mk1 c s a).1:=j1a _ _ _;by_cases c2:(mk1 c s a).2=0
 ·rw[if_pos c2];by_cases c3:0<(mk1 c s a).1.1
  ·rw[if_pos c3,a2t (n+10) h a (CelW.of hok)];by_cases c4:FitsP (mk1 c s a).1 c.2.1.2.1 a
   ·rw[if_pos (And.intro c2 c4)] at hk ⊢;rw[if_pos c4];have:=x1n n hk h0 hij hj;simp only[obs,if_neg z2];simp only[tfd] at this ⊢;exact this
   ·have hn1:¬((mk1 c s a).2=0∧FitsP (mk1 c s a).1 c.2.1.2.1 a):=fun k=>c4 k.2
    rw[if_neg hn1] at hk ⊢;rw[if_neg c4];have:=x1n n hk h0 hij hj;simp only[obs,if_neg z2];simp only[tfd] at this ⊢;exact this
  ·rw[if_neg c3,if_neg (fun k=>c3 (by have:=k.2.n.n1;omega))]
 ·rw[if_neg c2,if_neg (fun k=>c2 k.1)]
noncomputable def i0k (c:Conf) (s:Trs) (was:Slo) (j:Int):Trs×Int :=
 if FoldOk c s then
  (if was=s0 then (s,0)
   else if FitsP was.2 c.2.1.1 was.1 then
    (if was.1=j then (s,0) else if was.1≤j∧f0w c.2.1.1 j then (upw c (tput s.1 was.1 was.2,s.2) was.1 j,0) else (([],([],[])),1))
   else (([],([],[])),2))
 else (([],([],[])),2)
theorem n0f {c:Conf} {s:Trs} (h:FoldOk c s) {i:Int} {x:Cel} (hf:FitsP x c.2.1.1 i):FoldOk c (tput s.1 i x,s.2) :=
 ⟨h.cok,by simpa [tput] using h.n0,h.n1,h.n2,y0q h.t0 hf,h.t1,h.t2⟩
theorem v1i (n:Nat) (c:Conf) {s:Trs} (hw:TrsW s) {was:Slo} (hx:SloW was) (j:Int):v0p (n+21) c s was j=some (i0k c s was j):=by
 rw[g1i,t0q (n+12) c hw];unfold i0k;by_cases h:FoldOk c s
 case neg=>rw[if_neg h,if_neg h];rfl
 have hr:=h.cok.rng;rw[if_pos h,if_pos h];simp only[obs,p0r,decide_true,Bool.not_true,tff,x1w,tfn,tfd,if_true,s0f (n+14) hx.c];by_cases c1:was=s0
 ·rw[if_pos c1,if_pos c1,if_pos c1]
 rw[if_neg c1,if_neg c1,if_neg c1];by_cases c2:FitsP was.2 c.2.1.1 was.1
 case neg=>rw[if_neg c2,if_neg c2]
 rw[if_pos c2,if_pos c2];by_cases c3:was.1=j
 ·rw[if_pos c3,if_pos c3]
 rw[if_neg c3,if_neg c3];by_cases c4:j<was.1
 ·rw[if_pos c4,if_neg (fun q=>by omega)]
 rw[if_neg c4,begins_0 (n+19) c s hr.w0.1 j];simp only[obs,tfn,tfd];by_cases hb:f0w c.2.1.1 j
 ·have hi:=c2.i0;rw[if_pos hb,if_pos ⟨by omega,hb⟩,a2u (n+11) h was.1 hx.c,if_pos c2];simp only[obs,if_true,fold_up n (n0f h c2) hi.1 (show was.1≤j by omega) hb]
 ·rw[if_neg hb,if_neg (fun q=>hb q.2)]
theorem FoldOk.lens {c:Conf} {s:Trs} (h:FoldOk c s):s.1.length≤1000000∧s.2.1.length≤1000000∧s.2.2.length≤1000000:=by
 have:=h.t0.l1;have:=h.t1.l1;have:=h.t2.l1;omega
abbrev Ser:=List Lab×(Int×(Rw×(Trs×Slo)))
structure SerW (s:Ser):Prop where
 last:I64 s.2.1
 raw:RawW s.2.2.1
 trs:TrsW s.2.2.2.1
 opn:SloW s.2.2.2.2
def a0q (l:List Slo) (i:Int):Prop:=∀s∈l,0<s.2.1→s.1<i
noncomputable instance (l i):Decidable (a0q l i):=Classical.propDecidable _
structure Fresh (s:Ser):Prop where
 raw:s.2.2.1.2.2=[]
 opn:s.2.2.2.2=s0
 b0:a0q s.2.2.2.1.1 0
 b1:a0q s.2.2.2.1.2.1 0
 b2:a0q s.2.2.2.1.2.2 0
structure EndsP (c:Conf) (s:Ser):Prop where
 last:∃e,s.2.2.1.2.2.getLast? = some e∧e.1=s.2.1
 ol:s.2.2.2.2.2.2.2.1.1=s.2.1
 fit:FitsP s.2.2.2.2.2 c.2.1.1 s.2.2.2.2.1
 b0:a0q s.2.2.2.1.1 (s.2.1 / c.2.1.1)
 b1:a0q s.2.2.2.1.2.1 (s.2.1 / c.2.1.2.1)
 b2:a0q s.2.2.2.1.2.2 (s.2.1 / c.2.1.2.2)
structure SerOk (c:Conf) (s:Ser):Prop where
 fold:FoldOk c s.2.2.2.1
 lab:LabOk s.1
 raw:RawOk s.2.2.1 c.1
 st:(s.2.1 = -1∧Fresh s)∨(s.2.1 ≠ -1∧EndsP c s)
noncomputable instance (s):Decidable (Fresh s):=Classical.propDecidable _
noncomputable instance (c s):Decidable (EndsP c s):=Classical.propDecidable _
noncomputable instance (c s):Decidable (SerOk c s):=Classical.propDecidable _
theorem h1j (n:Nat) {del:a0c×Unit→Option Bool} {p:Slo→Bool} (hd:∀x,del (x,())=some (p x)) (l:List Slo) (hL:l.length≤1000000):f0d (n+2) l del=some (l.any p):=by
 rw[m0o,i0g];rcases a2i hd n l hL l [] a0b 0 l.length rfl rfl rfl (by unfold a0b;omega) with ⟨h1,h2⟩ | ⟨A,x,B,h1,h2,h3,h4⟩
 ·rw[h1];have:l.any p=false:=by rw[List.any_eq_false];intro x hx;simp[h2 x hx]
  rw[this];rfl
 ·rw[h4];have:l.any p=true:=List.any_eq_true.2 ⟨x,by rw[h1];simp,h3⟩;simp only[obs,t0a,this,Int.zero_add];rw[decide_eq_true (by omega)]
theorem c0n (n:Nat) (l:List Slo) (i:Int) (hL:l.length≤1000000):c0x (n+3) l i=some (!decide (a0q l i)):=by
 rw[x0b,h1j (p:=fun s=>decide (0<s.2.1∧i≤s.1)) n (fun x=>by
  show j0j (n+1+1) x i=_;rw[s0y]
  by_cases h1:0<x.2.1<;>by_cases h2:i≤x.1<;>simp[h1,h2]) l hL]
 simp only[obs];refine congrArg some ?_;by_cases h:a0q l i
 ·rw[decide_eq_true h];rw[List.any_eq_false.2]
  ·rfl
  ·intro x hx k;have:=of_decide_eq_true k;have:=h x hx this.1;omega
 ·rw[decide_eq_false h];have:∃x∈l,0<x.2.1∧i≤x.1:=Classical.byContradiction fun k=>h fun x hx hc=>by
   rcases Int.lt_or_le x.1 i with q | q
   ·exact q
   ·exact absurd ⟨x,hx,hc,q⟩ k
  obtain ⟨x,hx,hq⟩:=this;rw[List.any_eq_true.2 ⟨x,hx,decide_eq_true hq⟩];rfl
theorem v1b (n:Nat) (c:Conf) {s:Ser} (hf:FoldOk c s.2.2.2.1):z0c (n+4) (c,s)=some (decide (Fresh s)):=by
 obtain ⟨l0,l1,l2⟩:=hf.lens;rw[j1k,x1w,c0n n _ _ l0,c0n n _ _ l1,c0n n _ _ l2];simp only[obs,Bool.not_not,tfd];by_cases h1:(s.2.2.1.2.2.length:Int)=0
 case neg=>rw[if_neg h1,decide_eq_false (fun k:Fresh s=>h1 (by rw[k.raw];rfl))]
 rw[if_pos h1];by_cases h2:s.2.2.2.2=s0
 case neg=>rw[if_neg h2,decide_eq_false (fun k:Fresh s=>h2 k.opn)]
 rw[if_pos h2];by_cases h3:a0q s.2.2.2.1.1 0
 case neg=>rw[if_neg h3,decide_eq_false (fun k:Fresh s=>h3 k.b0)]
 rw[if_pos h3];by_cases h4:a0q s.2.2.2.1.2.1 0
 case neg=>rw[if_neg h4,decide_eq_false (fun k:Fresh s=>h4 k.b1)]
 rw[if_pos h4];refine congrArg some (decide_eq_decide.2 ⟨fun k=>⟨List.length_eq_zero_iff.1 (by omega),h2,h3,h4,k⟩,fun k=>k.b2⟩)
theorem z1v {c:Conf} {s:Ser} (hr:RawOk s.2.2.1 c.1) {e:Ev} (he:s.2.2.1.2.2.getLast? = some e):EvOk e:=hr.f.ok e (List.mem_of_getLast? he)
theorem a2c (n:Nat) (c:Conf) {s:Ser} (hf:FoldOk c s.2.2.2.1) (hr:RawOk s.2.2.1 c.1) (hw:SerW s):x0s (n+7) (c,s)=some (decide (EndsP c s)):=by
 obtain ⟨l0,l1,l2⟩:=hf.lens;have hg:=hf.cok.rng;have hlen:=hr.len;have hm1:=hr.m1;rw[n1k,q1s (n+5) s.2.2.1 (by omega)];cases hl:s.2.2.1.2.2.getLast? with
 | none =>
  simp only[obs];rw[show (decide ((3:Int)=0))=false from rfl,tff,decide_eq_false];intro k;obtain ⟨e,he,_⟩:=k.last;rw[hl] at he;cases he
 | some e =>
  have heo:=z1v hr hl;simp only[obs,decide_true,tft,tfd,if_true];by_cases h1:e.1=s.2.1
  case neg =>
   rw[if_neg h1,decide_eq_false];intro k;obtain ⟨e',he,hq⟩:=k.last;rw[hl] at he;injection he with he;subst he;exact h1 hq
  rw[if_pos h1];by_cases h2:s.2.2.2.2.2.2.2.1.1=s.2.1
  case neg=>rw[if_neg h2,decide_eq_false (fun k:EndsP c s=>h2 k.ol)]
  have q0:=q1v heo hg.w0.1;have q1:=q1v heo hg.w1.1;have q2:=q1v heo hg.w2.1;rw[h1] at q0 q1 q2;rw[if_pos h2,s0f n hw.opn.c];simp only[obs,tfd,q0,q1,q2,c0n (n+3) _ _ l0,c0n (n+3) _ _ l1,c0n (n+3) _ _ l2,Bool.not_not,if_neg (show ¬(c.2.1.1=0) by have:=hg.w0;omega),if_neg (show ¬(c.2.1.2.1=0) by have:=hg.w1;omega),if_neg (show ¬(c.2.1.2.2=0) by have:=hg.w2;omega)];by_cases h3:FitsP s.2.2.2.2.2 c.2.1.1 s.2.2.2.2.1
  case neg=>rw[if_neg h3,decide_eq_false (fun k:EndsP c s=>h3 k.fit)]
  rw[if_pos h3];by_cases h4:a0q s.2.2.2.1.1 (s.2.1 / c.2.1.1)
  case neg=>rw[if_neg h4,decide_eq_false (fun k:EndsP c s=>h4 k.b0)]
  rw[if_pos h4];by_cases h5:a0q s.2.2.2.1.2.1 (s.2.1 / c.2.1.2.1)
  case neg=>rw[if_neg h5,decide_eq_false (fun k:EndsP c s=>h5 k.b1)]
  rw[if_pos h5];refine congrArg some (decide_eq_decide.2 ⟨fun k=>⟨⟨e,hl,h1⟩,h2,h3,h4,h5,k⟩,fun k=>k.b2⟩)
theorem z08 (p:Prop) [Decidable p]:((if p then (0:Int) else 8)=0)↔p:=by by_cases h:p<;>simp[h]
theorem o0b (n:Nat) (c:Conf) {s:Ser} (hw:SerW s):m0q (n+10) c s=some (if SerOk c s then (some (c,s),0) else (none,2)):=by
 rw[b1m,v1j n c hw.trs,j0q (n+3),j1x (n+4) _ _ hw.raw];simp only[obs,tfn,tfd];by_cases h1:FoldOk c s.2.2.2.1
 case neg=>rw[if_neg (mt (z02 _).1 h1),if_neg (fun k:SerOk c s=>h1 k.fold)]
 by_cases h2:LabOk s.1
 case neg=>rw[if_pos ((z02 _).2 h1),if_neg (mt (z08 _).1 h2),if_neg (fun k:SerOk c s=>h2 k.lab)]
 by_cases h3:RawOk s.2.2.1 c.1
 case neg=>rw[if_pos ((z02 _).2 h1),if_pos ((z08 _).2 h2),if_neg (mt (z02 _).1 h3),if_neg (fun k:SerOk c s=>h3 k.raw)]
 rw[if_pos ((z02 _).2 h1),if_pos ((z08 _).2 h2),if_pos ((z02 _).2 h3),v1b (n+5) c h1,a2c (n+2) c h1 h3 hw];simp only[obs,tfd];by_cases h4:s.2.1 = -1
 ·rw[if_pos h4];by_cases h5:Fresh s
  ·rw[if_pos h5,if_pos (⟨h1,h2,h3,.inl ⟨h4,h5⟩⟩:SerOk c s)]
  ·rw[if_neg h5,if_pos h4,if_neg (fun k:SerOk c s=>by
    rcases k.st with q | q
    ·exact h5 q.2
    ·exact q.1 h4)]
 ·rw[if_neg h4,if_neg h4];by_cases h5:EndsP c s
  ·rw[if_pos h5,if_pos (⟨h1,h2,h3,.inr ⟨h4,h5⟩⟩:SerOk c s)]
  ·rw[if_neg h5,if_neg (fun k:SerOk c s=>by
    rcases k.st with q | q
    ·exact h4 q.1
    ·exact h5 q.2)]
theorem w0m {l:List Slo} {w:Int} (h:TierOk l w) (i:Int):a0q l i↔∀s∈tall l,s.1<i:=by
 constructor
 ·intro k s hs;have:=(tall_N h hs).n1;exact k s (k0i.1 hs).1 (by omega)
 ·intro k s hs hc;exact k s (k0i.2 ⟨hs,fun e=>by rw[e] at hc;simp[s0,z0] at hc⟩)
theorem z0w {l:List Slo} {w:Int} (h:TierOk l w):a0q l 0↔tall l=[]:=by
 rw[w0m h];constructor
 ·intro k;by_cases e:tall l=[]
  ·exact e
  ·obtain ⟨s,hs⟩:=List.exists_mem_of_ne_nil _ e;have:=(l0d h hs).1.i0;have:=k s hs;omega
 ·intro e s hs;rw[e] at hs;cases hs
theorem nn {α:Type} {a b:α} (h:a=b):¬(a≠b):=fun k=>k h
def ser0:Ser:=([],(0,(r0w,(([],([],[])),s0))))
def u0e (s:Ser) (i:Int):Prop:=s.2.2.2.2≠s0∧s.2.2.2.2.1≠i
noncomputable instance (s i):Decidable (u0e s i):=Classical.propDecidable _
noncomputable def turned (c:Conf) (s:Ser) (i:Int):(Trs×Slo)×Int :=
 if u0e s i then (if (i0k c s.2.2.2.1 s.2.2.2.2 i).2=0 then (((i0k c s.2.2.2.1 s.2.2.2.2 i).1,s0),0) else ((s.2.2.2.1,s.2.2.2.2),(i0k c s.2.2.2.1 s.2.2.2.2 i).2)) else ((s.2.2.2.1,s.2.2.2.2),0)
noncomputable def putE (c:Conf) (s:Ser) (e:Ev):Ser×Int :=
 if SerOk c s∧EvOk e then
  (if e.1≤s.2.1 then (ser0,9)
   else if (turned c s (e.1 / c.2.1.1)).2≠0 then (ser0,(turned c s (e.1 / c.2.1.1)).2)
   else if (g0d s.2.2.1 c.1 e).2≠0 then (ser0,(g0d s.2.2.1 c.1 e).2)
   else if (mrgE (turned c s (e.1 / c.2.1.1)).1.2.2 (b0r e)).2≠0 then (ser0,(mrgE (turned c s (e.1 / c.2.1.1)).1.2.2 (b0r e)).2)
   else ((s.1,(e.1,((g0d s.2.2.1 c.1 e).1,((turned c s (e.1 / c.2.1.1)).1.1,(e.1 / c.2.1.1,(mrgE (turned c s (e.1 / c.2.1.1)).1.2.2 (b0r e)).1))))),0))
 else (ser0,2)
theorem t0f {c:Conf} {s:Ser} (h:SerOk c s):s.2.2.2.2.2.1=0↔s.2.2.2.2=s0:=by
 constructor
 ·intro k;rcases h.st with q | q
  ·exact q.2.opn
  ·have:=q.2.fit.n.n1;omega
 ·intro k;rw[k];rfl
theorem turned_w {c:Conf} {s:Ser} (hw:SerW s) (i:Int):SloW (turned c s i).1.2:=by
 unfold turned;split
 ·split
  ·exact u0v
  ·exact hw.opn
 ·exact hw.opn
theorem a2b (n:Nat) (c:Conf) {s:Ser} (h:SerOk c s) (hw:SerW s) (i:Int):e1w (n+22) (c,s) i=some ((turned c s i).2,(c,(s.1,(s.2.1,(s.2.2.1,(turned c s i).1))))):=by
 rw[n1j];simp only[tfd,v1i n c hw.trs hw.opn i,obs];unfold turned;by_cases h1:s.2.2.2.2.1=i
 ·rw[if_pos h1,if_neg (fun k:u0e s i=>k.2 h1)]
 rw[if_neg h1];by_cases h2:s.2.2.2.2.2.1=0
 ·rw[if_pos h2,if_neg (fun k:u0e s i=>k.1 ((t0f h).1 h2))]
 have ht:u0e s i:=⟨fun k=>h2 ((t0f h).2 k),h1⟩;rw[if_neg h2,if_pos ht];by_cases h3:(i0k c s.2.2.2.1 s.2.2.2.2 i).2=0
 ·rw[if_pos h3,if_pos h3,h3];rfl
 ·rw[if_neg h3,if_neg h3]
theorem t1v (n:Nat) (c:Conf) {s:Ser} (hw:SerW s) {e:Ev} (he:EvW e):v0a (n+23) c s e=some (putE c s e):=by
 rw[f1b,o0b (n+12) c hw,e0k _ he];unfold putE;by_cases h1:SerOk c s
 case neg=>rw[if_neg h1,if_neg (fun k:SerOk c s∧EvOk e=>h1 k.1)];rfl
 rw[if_pos h1];have hg:=h1.fold.cok.rng;simp only[obs,p0r,decide_true,Bool.not_true,tff,tfn,tfd];by_cases h2:EvOk e
 case neg=>rw[if_neg (mt (z02 _).1 h2),if_neg (fun k:SerOk c s∧EvOk e=>h2 k.2)];rfl
 rw[if_pos ((z02 _).2 h2),if_pos (And.intro h1 h2)];by_cases h3:e.1≤s.2.1
 ·rw[if_pos h3,if_pos h3];rfl
 rw[if_neg h3,if_neg h3,if_neg (show ¬(c.2.1.1=0) by have:=hg.w0;omega),q1v h2 hg.w0.1,a2b n c h1 hw];generalize ht:turned c s (e.1 / c.2.1.1)=t;have htw:=turned_w (c:=c) hw (e.1 / c.2.1.1);rw[ht] at htw;simp only[obs];by_cases h4:t.2=0
 case neg=>rw[if_neg h4,if_pos h4];rfl
 rw[if_pos h4,if_neg (nn h4),t1k,raw_put (n+15) c.1 hw.raw he,cell_add (n+14) htw.c he,if_pos h2];simp only[obs,tfn,tfd];by_cases h5:(g0d s.2.2.1 c.1 e).2=0
 case neg =>
  rw[if_neg h5,if_pos h5];simp only[obs];rw[if_neg h5];rfl
 rw[if_pos h5,if_neg (nn h5)];simp only[obs];by_cases h6:(mrgE t.1.2.2 (b0r e)).2=0
 ·rw[if_pos h6,if_neg (nn h6)];simp only[if_true]
 ·rw[if_neg h6,if_pos h6];rfl
end Go.Proofs.YtojobamheigpbaaGreatDoor

namespace Go.Plim
set_option linter.unusedVariables false
def below (w:Int) (l:List Ev) (t:Int):List Ev:=l.filter fun e=>decide (e.1 / w<t / w)
theorem u0c {w:Int} {l:List Ev} {t:Int} (h:∀e∈l,e.1 / w<t / w):below w l t=l:=by
 unfold below;exact List.filter_eq_self.2 fun e he=>by simpa using h e he
theorem j0x {w:Int} {l:List Ev} {t u:Int} (h:t / w=u / w):below w l t=below w l u:=by unfold below;rw[h]
theorem i0x {w:Int} {l:List Ev} (e:Ev):below w (l++[e]) e.1=below w l e.1:=by
 unfold below;rw[List.filter_append];simp
structure EndsAt (l:List Ev) (t:Int):Prop where
 foll:Foll l
 le:∀e∈l,e.1≤t
 last:∃e∈l,e.1=t
theorem EndsAt.wle {l:List Ev} {t:Int} (h:EndsAt l t) {w:Int} (hw:1≤w):∀e∈l,e.1 / w≤t / w:=fun e he=>Int.ediv_le_ediv (by omega) (h.le e he)
theorem v1y {l:List Ev} {t:Int} (h:EndsAt l t) {w:Int} (hw:1≤w):l=below w l t++win w l (t / w):=by
 have key:∀(m:List Ev),(∀e∈m,e.1 / w≤t / w)→m.Pairwise (fun a b=>a.1 / w≤b.1 / w)→m=below w m t++win w m (t / w):=by
  intro m;induction m with
  | nil=>intro _ _;rfl
  | cons x m ih =>
   intro h1 h2;rw[List.pairwise_cons] at h2;have ih':=ih (fun e he=>h1 e (by simp[he])) h2.2;have hx:=h1 x (by simp);unfold below win at *
   by_cases c:x.1 / w<t / w
   ·rw[List.filter_cons_of_pos (by simpa using c),List.filter_cons_of_neg (by simp;omega),List.cons_append,←ih']
   ·have e0:m.filter (fun e=>decide (e.1 / w<t / w))=[]:=by
     rw[List.filter_eq_nil_iff];intro y hy;have:=h2.1 y hy;simp;omega
    rw[List.filter_cons_of_neg (by simpa using c),List.filter_cons_of_pos (by simp;omega),e0,List.nil_append];rw[e0,List.nil_append] at ih';rw[←ih']
 exact key l (h.wle hw) (a2p hw h.foll)
theorem x1b (t:List Slo) (i:Int) (a b:Cel):tput (tput t i a) i b=tput t i b:=by
 unfold tput;rw[List.length_set,List.set_set]
theorem e1n {t:List Slo} {w a:Int} {l:List Ev} (h:TierInv t w l):∀(n:Nat) (B:List Ev),B.length=n+1→Foll (l++B)→(∀e∈B,e.1 / w=a) →
  FitsP (cellOf (win w (l++B) a)) w a∧TierInv (tput t a (cellOf (win w (l++B) a))) w (l++B):=by
 intro n;induction n with
 | zero =>
  intro B hB hf ha
  match B,hB with
  | [e],_ =>
   have he:=ha e (by simp);have:=y0s h hf;rw[he] at this;rw[win_snoc,if_pos he];exact this
 | succ n ih =>
  intro B hB hf ha;rcases List.eq_nil_or_concat B with rfl | ⟨B',e,rfl⟩
  ·cases hB
  rw[List.concat_eq_append] at *
  have he:=ha e (by simp);have hf':Foll (l++B'++[e]):=by rw[List.append_assoc];exact hf
  obtain ⟨h1,h2⟩:=ih B' (by simp at hB;exact hB) (a0v.1 hf').1 (fun x hx=>ha x (by simp[hx]));have:=y0s h2 hf';rw[he,x1b,List.append_assoc] at this;rw[←List.append_assoc,win_snoc,if_pos he];rw[List.append_assoc];exact this
theorem f0x {s:List Slo} {w:Int} {l:List Ev} {t:Int} (he:EndsAt l t) (h:TierInv s w (below w l t)):FitsP (cellOf (win w l (t / w))) w (t / w)∧TierInv (tput s (t / w) (cellOf (win w l (t / w)))) w l:=by
 have hw:=h.ok.w0;have hs:=v1y he hw;obtain ⟨e,hel,het⟩:=he.last;have hne:win w l (t / w)≠[]:=fun k=>by
  have:e∈win w l (t / w):=v0i.2 ⟨hel,by rw[het]⟩;rw[k] at this;cases this
 have hlen:(win w l (t / w)).length=((win w l (t / w)).length-1)+1:=by have:=List.length_pos_iff.2 hne;omega
 have:=e1n h _ (win w l (t / w)) hlen (by rw[←hs];exact he.foll) (fun x hx=>(v0i.1 hx).2);rw[←hs] at this;exact this
theorem edvm {t a b:Int} (ha:1≤a) (hb:1≤b) (hm:b % a=0):t / a*a / b=t / b∧t / a / (b / a)=t / b:=by
 have e:a*(b / a)=b:=by have:=Int.mul_ediv_add_emod b a;omega
 have h1:t / a / (b / a)=t / b:=by rw[Int.ediv_ediv_of_nonneg (by omega),e]
 refine ⟨?_,h1⟩;rw[←h1]
 conv=>lhs;rw[←e,Int.mul_comm (t / a) a]
 exact Int.mul_ediv_mul_of_pos _ _ (by omega)
theorem c1j {l:List Ev} {a b i:Int} (ha:1≤a) (hb:1≤b) (hm:b % a=0):rng a l (i*(b / a)) ((i+1)*(b / a))=win b l i:=by
 unfold rng win;apply List.filter_congr;intro e _;have h1:=(edvm (t:=e.1) ha hb hm).2;have hq:1≤b / a:=by
  have e:a*(b / a)=b:=by have:=Int.mul_ediv_add_emod b a;omega
  rcases Int.lt_or_le 0 (b / a) with k | k
  ·omega
  ·have:a*(b / a)≤0:=Int.mul_nonpos_of_nonneg_of_nonpos (by omega) k;omega
 refine decide_eq_decide.2 ?_;rw[←h1];generalize e.1 / a=x at *
 generalize b / a=q at *
 constructor
 ·rintro ⟨h2,h3⟩;have:=Int.le_ediv_of_mul_le (show 0<q by omega) h2;have:=Int.ediv_lt_of_lt_mul (show 0<q by omega) h3;omega
 ·rintro rfl;exact ⟨Int.ediv_mul_le _ (by omega),Int.lt_ediv_add_one_mul_self x (by omega)⟩
end Go.Plim
namespace Go.Proofs.YtojobamheigpbaaGreatDoor
open Go.Flat Go.Plim
structure FInv (c:Conf) (s:Trs) (l:List Ev) (t:Int):Prop where
 ok:FoldOk c s
 i0:TierInv s.1 c.2.1.1 (below c.2.1.1 l t)
 i1:TierInv s.2.1 c.2.1.2.1 (below c.2.1.2.1 l t)
 i2:TierInv s.2.2 c.2.1.2.2 (below c.2.1.2.2 l t)
theorem OkC.m02 {c:Conf} (h:OkC c):c.2.1.2.2 % c.2.1.1=0:=by
 have h1:=Int.dvd_of_emod_eq_zero h.m1;have h2:=Int.dvd_of_emod_eq_zero h.m2;exact Int.emod_eq_zero_of_dvd (Int.dvd_trans h1 h2)
theorem same_win {c:Conf} (h:OkC c) {t u:Int} (e:t / c.2.1.1=u / c.2.1.1):t / c.2.1.2.1=u / c.2.1.2.1∧t / c.2.1.2.2=u / c.2.1.2.2:=by
 have hr:=h.rng;rw[←(edvm (t:=t) hr.w0.1 hr.w1.1 h.m1).1,←(edvm (t:=u) hr.w0.1 hr.w1.1 h.m1).1,←(edvm (t:=t) hr.w0.1 hr.w2.1 h.m02).1,←(edvm (t:=u) hr.w0.1 hr.w2.1 h.m02).1,e];exact ⟨rfl,rfl⟩
theorem y1a {c:Conf} (h:OkC c) {t u:Int} (e:t / c.2.1.2.1=u / c.2.1.2.1):t / c.2.1.2.2=u / c.2.1.2.2:=by
 have hr:=h.rng;rw[←(edvm (t:=t) hr.w1.1 hr.w2.1 h.m2).1,←(edvm (t:=u) hr.w1.1 hr.w2.1 h.m2).1,e]
theorem b2a {c:Conf} {s:Trs} {l:List Ev} {t:Int} (h:FInv c s l t) {e:Ev} (hw:t / c.2.1.1=e.1 / c.2.1.1):FInv c s (l++[e]) e.1:=by
 obtain ⟨h1,h2⟩:=same_win h.ok.cok hw;refine ⟨h.ok,?_,?_,?_⟩
 ·rw[i0x,←j0x hw];exact h.i0
 ·rw[i0x,←j0x h1];exact h.i1
 ·rw[i0x,←j0x h2];exact h.i2
theorem l1e {c:Conf} {s:Trs} {l:List Ev} {e:Ev} (h:FInv c s l e.1):FInv c s (l++[e]) e.1:=by
 refine ⟨h.ok,?_,?_,?_⟩
 ·rw[i0x];exact h.i0
 ·rw[i0x];exact h.i1
 ·rw[i0x];exact h.i2
theorem i1l {w:Int} {l:List Ev} {t f n:Int} (he:EndsAt l t) (hw:1≤w) {i:Int} (h1:t / w<i+f) (h2:f≤n):∀e∈l,e.1 / w<i+n:=fun e hel=>by
 have:=he.wle hw e hel;omega
theorem v1n {c:Conf} {s:Trs} {l:List Ev} {t:Int} (h:FInv c s l t) (he:EndsAt l t) {u:Int} (hu:t<u) (hw:t / c.2.1.1≠u / c.2.1.1) :
  FitsP (cellOf (win c.2.1.1 l (t / c.2.1.1))) c.2.1.1 (t / c.2.1.1) ∧
  FInv c (upw c (tput s.1 (t / c.2.1.1) (cellOf (win c.2.1.1 l (t / c.2.1.1))),s.2) (t / c.2.1.1) (u / c.2.1.1)) l u:=by
 have hok:=h.ok;have hc:=hok.cok;have hr:=hc.rng;obtain ⟨hf0,k0⟩:=f0x he h.i0;have hlt:t / c.2.1.1<u / c.2.1.1:=by
  have:t / c.2.1.1≤u / c.2.1.1:=Int.ediv_le_ediv (by have:=hr.w0;omega) (by omega);omega
 refine ⟨hf0,?_⟩;have s0ok:FoldOk c (tput s.1 (t / c.2.1.1) (cellOf (win c.2.1.1 l (t / c.2.1.1))),s.2) :=
  ⟨hc,by simpa [tput] using hok.n0,hok.n1,hok.n2,y0q hok.t0 hf0,hok.t1,hok.t2⟩
 generalize hs0:tput s.1 (t / c.2.1.1) (cellOf (win c.2.1.1 l (t / c.2.1.1)))=a0 at *
 have b0:below c.2.1.1 l u=l:=u0c fun e hel=>by have:=he.wle hr.w0.1 e hel;omega
 have q1:=edvm (t:=t) hr.w0.1 hr.w1.1 hc.m1;have q1u:=edvm (t:=u) hr.w0.1 hr.w1.1 hc.m1;have q2:=edvm (t:=t) hr.w0.1 hr.w2.1 hc.m02;have q2u:=edvm (t:=u) hr.w0.1 hr.w2.1 hc.m02;have q12:=edvm (t:=t) hr.w1.1 hr.w2.1 hc.m2;have ht0:0≤t:=by obtain ⟨e,hel,het⟩:=he.last;have:=(he.foll.ok e hel).t0;omega
 have r1:up1 c (a0,s.2) (t / c.2.1.1) (u / c.2.1.1)=(a0,(if t / c.2.1.2.1=u / c.2.1.2.1 then s.2.1 else tput s.2.1 (t / c.2.1.2.1) (cellOf (win c.2.1.2.1 l (t / c.2.1.2.1))),s.2.2)) ∧
   (t / c.2.1.2.1≠u / c.2.1.2.1→TierInv (tput s.2.1 (t / c.2.1.2.1) (cellOf (win c.2.1.2.1 l (t / c.2.1.2.1)))) c.2.1.2.1 l):=by
  unfold up1;rw[q1.1,q1u.1];by_cases k:t / c.2.1.2.1=u / c.2.1.2.1
  ·rw[if_pos k,if_pos k];exact ⟨rfl,fun n=>absurd k n⟩
  ·obtain ⟨hf1,k1⟩:=f0x he h.i1;have hm:mk1 c (a0,s.2) (t / c.2.1.2.1)=(cellOf (win c.2.1.2.1 l (t / c.2.1.2.1)),0):=by
    unfold mk1;have e1:0≤c.2.1.2.1 / c.2.1.1:=Int.ediv_nonneg (by have:=hr.w1;omega) (by have:=hr.w0;omega);have e0:0≤t / c.2.1.2.1:=Int.ediv_nonneg ht0 (by have:=hr.w1;omega);have hlen:((a0:List Slo).length:Int)=c.2.2.1.1:=s0ok.n0;have hub:t / c.2.1.1<t / c.2.1.2.1*(c.2.1.2.1 / c.2.1.1)+c.2.1.2.1 / c.2.1.1:=by
     rw[←q1.2];have hp:0<c.2.1.2.1 / c.2.1.1:=by
      rcases Int.lt_or_le 0 (c.2.1.2.1 / c.2.1.1) with z | z
      ·exact z
      ·exfalso;have e:c.2.1.1*(c.2.1.2.1 / c.2.1.1)=c.2.1.2.1:=by have:=Int.mul_ediv_add_emod c.2.1.2.1 c.2.1.1;have:=hc.m1;omega
       have:c.2.1.2.1 / c.2.1.1=0:=by omega
       rw[this,Int.mul_zero] at e;have:=hr.w1;omega
     have:=Int.lt_ediv_add_one_mul_self (t / c.2.1.1) hp;rw[Int.add_mul,Int.one_mul] at this;exact this
    have:=w0d k0 he.foll (i:=t / c.2.1.2.1*(c.2.1.2.1 / c.2.1.1)) (k:=(t / c.2.1.2.1+1)*(c.2.1.2.1 / c.2.1.1)) (Int.mul_nonneg e0 e1)
     (Int.mul_le_mul_of_nonneg_right (by omega) e1) (by rw[hlen];exact i1l he hr.w0.1 hub hc.d1)
    rw[this,c1j hr.w0.1 hr.w1.1 hc.m1]
   rw[if_neg k,if_neg k,hm,if_pos (And.intro rfl hf1)];exact ⟨rfl,fun _=>k1⟩
 have okc1:=i1s s0ok (t / c.2.1.1) (u / c.2.1.1);have okc2:=upw_ok s0ok (t / c.2.1.1) (u / c.2.1.1);have i1:TierInv (if t / c.2.1.2.1=u / c.2.1.2.1 then s.2.1 else tput s.2.1 (t / c.2.1.2.1) (cellOf (win c.2.1.2.1 l (t / c.2.1.2.1)))) c.2.1.2.1 (below c.2.1.2.1 l u):=by
  by_cases k:t / c.2.1.2.1=u / c.2.1.2.1
  ·rw[if_pos k,←j0x k];exact h.i1
  ·have:below c.2.1.2.1 l u=l:=u0c fun e hel=>by
    have:=he.wle hr.w1.1 e hel;have:t / c.2.1.2.1≤u / c.2.1.2.1:=Int.ediv_le_ediv (by have:=hr.w1;omega) (by omega);omega
   rw[if_neg k,this];exact r1.2 k
 unfold upw at okc2 ⊢;rw[r1.1] at okc1 okc2 ⊢;generalize hs1:(if t / c.2.1.2.1=u / c.2.1.2.1 then s.2.1 else tput s.2.1 (t / c.2.1.2.1) (cellOf (win c.2.1.2.1 l (t / c.2.1.2.1))))=a1 at *
 have r2:up2 c (a0,(a1,s.2.2)) (t / c.2.1.1) (u / c.2.1.1)=(a0,(a1,if t / c.2.1.2.2=u / c.2.1.2.2 then s.2.2 else tput s.2.2 (t / c.2.1.2.2) (cellOf (win c.2.1.2.2 l (t / c.2.1.2.2))))) ∧
   (t / c.2.1.2.2≠u / c.2.1.2.2→TierInv (tput s.2.2 (t / c.2.1.2.2) (cellOf (win c.2.1.2.2 l (t / c.2.1.2.2)))) c.2.1.2.2 l):=by
  unfold up2;rw[q2.1,q2u.1];by_cases k:t / c.2.1.2.2=u / c.2.1.2.2
  ·rw[if_pos k,if_pos k];exact ⟨rfl,fun n=>absurd k n⟩
  ·obtain ⟨hf2,k2⟩:=f0x he h.i2;have k1':t / c.2.1.2.1≠u / c.2.1.2.1:=fun z=>k (y1a hc z)
   have hb1:below c.2.1.2.1 l u=l:=u0c fun e hel=>by
    have:=he.wle hr.w1.1 e hel;have:t / c.2.1.2.1≤u / c.2.1.2.1:=Int.ediv_le_ediv (by have:=hr.w1;omega) (by omega);omega
   rw[hb1] at i1;have hm:mk2 c (a0,(a1,s.2.2)) (t / c.2.1.2.2)=(cellOf (win c.2.1.2.2 l (t / c.2.1.2.2)),0):=by
    unfold mk2;have e1:0≤c.2.1.2.2 / c.2.1.2.1:=Int.ediv_nonneg (by have:=hr.w2;omega) (by have:=hr.w1;omega);have e0:0≤t / c.2.1.2.2:=Int.ediv_nonneg ht0 (by have:=hr.w2;omega);have hlen:((a1:List Slo).length:Int)=c.2.2.1.2.1:=okc1.n1;have hub:t / c.2.1.2.1<t / c.2.1.2.2*(c.2.1.2.2 / c.2.1.2.1)+c.2.1.2.2 / c.2.1.2.1:=by
     rw[←q12.2];have hp:0<c.2.1.2.2 / c.2.1.2.1:=by
      rcases Int.lt_or_le 0 (c.2.1.2.2 / c.2.1.2.1) with z | z
      ·exact z
      ·exfalso;have e:c.2.1.2.1*(c.2.1.2.2 / c.2.1.2.1)=c.2.1.2.2:=by have:=Int.mul_ediv_add_emod c.2.1.2.2 c.2.1.2.1;have:=hc.m2;omega
       have:c.2.1.2.2 / c.2.1.2.1=0:=by omega
       rw[this,Int.mul_zero] at e;have:=hr.w2;omega
     have:=Int.lt_ediv_add_one_mul_self (t / c.2.1.2.1) hp;rw[Int.add_mul,Int.one_mul] at this;exact this
    have:=w0d i1 he.foll (i:=t / c.2.1.2.2*(c.2.1.2.2 / c.2.1.2.1)) (k:=(t / c.2.1.2.2+1)*(c.2.1.2.2 / c.2.1.2.1)) (Int.mul_nonneg e0 e1)
     (Int.mul_le_mul_of_nonneg_right (by omega) e1) (by rw[hlen];exact i1l he hr.w1.1 hub hc.d2)
    rw[this,c1j hr.w1.1 hr.w2.1 hc.m2]
   rw[if_neg k,if_neg k,hm,if_pos (And.intro rfl hf2)];exact ⟨rfl,fun _=>k2⟩
 rw[r2.1] at okc2 ⊢;refine ⟨okc2,by rw[b0];exact k0,i1,?_⟩;by_cases k:t / c.2.1.2.2=u / c.2.1.2.2
 ·simp only[if_pos k];rw[←j0x k];exact h.i2
 ·have:below c.2.1.2.2 l u=l:=u0c fun e hel=>by
   have:=he.wle hr.w2.1 e hel;have:t / c.2.1.2.2≤u / c.2.1.2.2:=Int.ediv_le_ediv (by have:=hr.w2;omega) (by omega);omega
  simp only[if_neg k];rw[this];exact r2.2 k
end Go.Proofs.YtojobamheigpbaaGreatDoor
namespace Go.Proofs.YtojobamheigpbaaGreatDoor
open Go.Flat Go.Plim
set_option linter.unusedVariables false
set_option linter.unusedSimpArgs false
noncomputable def now1 (c:Conf) (s:Ser):Cel×Int:=mrgE (tfold s.2.2.2.1.1 (s.2.1 / c.2.1.2.1*(c.2.1.2.1 / c.2.1.1)) (s.2.1 / c.2.1.1)).1 s.2.2.2.2.2
noncomputable def now2 (c:Conf) (s:Ser):Cel×Int :=
 if (now1 c s).2≠0 then (z0,(now1 c s).2) else mrgE (tfold s.2.2.2.1.2.1 (s.2.1 / c.2.1.2.2*(c.2.1.2.2 / c.2.1.2.1)) (s.2.1 / c.2.1.2.1)).1 (now1 c s).1
theorem t1x {c:Conf} {s:Ser} (h:SerOk c s) (hn:¬(s.2.1 = -1)):EndsP c s∧∃e,EvOk e∧e.1=s.2.1:=by
 rcases h.st with q | q
 ·exact absurd q.1 hn
 ·obtain ⟨e,he,h1⟩:=q.2.last;exact ⟨q.2,e,z1v h.raw he,h1⟩
structure At (c:Conf) (s:Ser):Prop where
 l0:0≤s.2.1
 l1:s.2.1<35184372088832
theorem q1q {c:Conf} {s:Ser} (h:SerOk c s) (hn:¬(s.2.1 = -1)):0≤s.2.1∧s.2.1<35184372088832:=by
 obtain ⟨_,e,he,h1⟩:=t1x h hn;rw[←h1];exact ⟨he.t0,he.t1⟩
theorem y1h {t:Int} (ht:0≤t∧t<35184372088832) {w:Int} (hw:1≤w):IntKind.wrap .i64 (Int.tdiv t w)=t / w:=by
 have:0≤t / w:=Int.ediv_nonneg ht.1 (by omega);have:t / w≤t:=Int.ediv_le_self _ ht.1;rw[r0e ht.1,w64 (by omega) (by omega)]
theorem nz {w:Int} (h:1≤w):¬(w=0):=by omega
structure SerL (s:Ser):Prop where
 l:s.1.length≤1000000
 r:s.2.2.1.2.2.length≤1000000
 a:s.2.2.2.1.1.length≤1000000
 b:s.2.2.2.1.2.1.length≤1000000
 d:s.2.2.2.1.2.2.length≤1000000
theorem j1o (n:Nat) (c:Conf) {s:Ser} (hw:SerW s):o0c (n+11) c s=some (if SerOk c s then 0 else 2):=by
 rw[z0i,o0b n c hw];by_cases h:SerOk c s
 ·rw[if_pos h,if_pos h];rfl
 ·rw[if_neg h,if_neg h];rfl
theorem x1u (n:Nat) (l:List Lab) (hL:l.length≤9223372036854775807):∀(rest pre:List Lab) (f:Nat) (ix len:Int),l=pre++rest→ix=pre.length→len=l.length→rest.length<f →
  h0m n f (l,len,ix,())=some (.inl ())∨h0m n f (l,len,ix,())=some (.inr 0):=by
 intro rest;induction rest with
 | nil =>
  intro pre f ix len hl hi hn hf;obtain ⟨f,rfl⟩:∃g,f=g+1:=⟨f-1,by simp at hf;omega⟩;left;rw[o0m];simp only[tfd,if_neg (idxe hl hi hn)]
 | cons x rest ih =>
  intro pre f ix len hl hi hn hf;obtain ⟨f,rfl⟩:∃g,f=g+1:=⟨f-1,by simp at hf;omega⟩;have hlen:=congrArg List.length hl;simp at hlen;rw[o0m];simp only[tfd,if_pos (idx hl hi hn),c0l hl hi,obs];rw[w64 (x:=ix+1) (by omega) (by omega)];by_cases h1:ix=40
  ·right;rw[if_pos h1]
  rw[if_neg h1];by_cases h2:(1000:Int)<x.1.length
  ·right;rw[if_pos h2]
  rw[if_neg h2];by_cases h3:(1000:Int)<x.2.length
  ·right;rw[if_pos h3]
  rw[if_neg h3];exact ih (pre++[x]) f (ix+1) len (idxl hl) (idxs hi) hn (by simp at hf;omega)
theorem z1x (n:Nat) (l:List Lab) (hL:l.length≤9223372036854775807):t0n (n+1) l=some 0∨t0n (n+1) l=some 1:=by
 rw[k1x];rcases x1u n l hL l [] a0b 0 _ rfl rfl rfl (by unfold a0b;omega) with h | h
 ·right;rw[h];rfl
 ·left;rw[h];rfl
theorem r0l (n:Nat) (a b:List Lab) (hL:a.length≤9223372036854775807):∀(ra rb pa pb:List Lab) (f:Nat) (ix len:Int),a=pa++ra→b=pb++rb→pa.length=pb.length→ra.length=rb.length→ix=pa.length→len=a.length→ra.length<f →
  e0r n f (a,b,len,ix,())=some (if ra=rb then .inl () else .inr false):=by
 intro ra;induction ra with
 | nil =>
  intro rb pa pb f ix len ha hb hp hr hi hn hf;obtain ⟨f,rfl⟩:∃g,f=g+1:=⟨f-1,by simp at hf;omega⟩;have e:rb=[]:=List.length_eq_zero_iff.1 (by simpa using hr.symm);subst e;rw[i0h,decide_eq_false (idxe ha hi hn),tff,if_pos rfl]
 | cons x ra ih =>
  intro rb pa pb f ix len ha hb hp hr hi hn hf;obtain ⟨f,rfl⟩:∃g,f=g+1:=⟨f-1,by simp at hf;omega⟩;cases rb with
  | nil=>simp at hr
  | cons y rb =>
   have hlen:=congrArg List.length ha;simp at hlen;rw[i0h,decide_eq_true (idx ha hi hn),tft,c0l ha hi,c0l hb (by omega)];simp only[obs,labEq];rw[w64 (x:=ix+1) (by omega) (by omega)];by_cases h:x=y
   ·subst h;simp only[decide_true,Bool.not_true,tff];rw[ih rb (pa++[x]) (pb++[x]) f (ix+1) len (idxl ha) (idxl hb) (by simp;omega) (by simpa using hr) (idxs hi) hn (by simp at hf;omega)];simp
   ·rw[if_neg (by simp[h])];simp only[decide_eq_false h,Bool.not_false,tft]
theorem l0w (n:Nat) (a b:List Lab) (hL:a.length≤9223372036854775807):k0t (n+1) a b=some (decide (a=b)):=by
 rw[u0w];by_cases h:a.length=b.length
 ·rw[decide_eq_true (show ((a.length:Nat):Int)=(b.length:Nat) by omega)];simp only[Bool.not_true,tff];rw[r0l n a b hL a b [] [] a0b 0 _ rfl rfl rfl h rfl rfl (by unfold a0b;omega)];by_cases h':a=b
  ·rw[if_pos h',decide_eq_true h'];rfl
  ·rw[if_neg h',decide_eq_false h'];rfl
 ·rw[decide_eq_false (show ¬((a.length:Nat):Int)=(b.length:Nat) by omega),decide_eq_false (fun k:a=b=>h (by rw[k]))];rfl
theorem r0m (n:Nat) (a b:List Ev) (hL:a.length≤9223372036854775807):∀(ra rb pa pb:List Ev) (f:Nat) (ix len:Int),a=pa++ra→b=pb++rb→pa.length=pb.length→ra.length=rb.length→ix=pa.length→len=a.length→ra.length<f →
  e0s n f (a,b,len,ix,())=some (if ra=rb then .inl () else .inr false):=by
 intro ra;induction ra with
 | nil =>
  intro rb pa pb f ix len ha hb hp hr hi hn hf;obtain ⟨f,rfl⟩:∃g,f=g+1:=⟨f-1,by simp at hf;omega⟩;have e:rb=[]:=List.length_eq_zero_iff.1 (by simpa using hr.symm);subst e;rw[i0i,decide_eq_false (idxe ha hi hn),tff,if_pos rfl]
 | cons x ra ih =>
  intro rb pa pb f ix len ha hb hp hr hi hn hf;obtain ⟨f,rfl⟩:∃g,f=g+1:=⟨f-1,by simp at hf;omega⟩;cases rb with
  | nil=>simp at hr
  | cons y rb =>
   have hlen:=congrArg List.length ha;simp at hlen;rw[i0i,decide_eq_true (idx ha hi hn),tft,c0l ha hi,c0l hb (by omega)];simp only[obs,evEq];rw[w64 (x:=ix+1) (by omega) (by omega)];by_cases h:x=y
   ·subst h;simp only[decide_true,Bool.not_true,tff];rw[ih rb (pa++[x]) (pb++[x]) f (ix+1) len (idxl ha) (idxl hb) (by simp;omega) (by simpa using hr) (idxs hi) hn (by simp at hf;omega)];simp
   ·rw[if_neg (by simp[h])];simp only[decide_eq_false h,Bool.not_false,tft]
theorem v0r (n:Nat) (a b:List Ev) (hL:a.length≤9223372036854775807):k0u (n+1) a b=some (decide (a=b)):=by
 rw[u0x];by_cases h:a.length=b.length
 ·rw[decide_eq_true (show ((a.length:Nat):Int)=(b.length:Nat) by omega)];simp only[Bool.not_true,tff];rw[r0m n a b hL a b [] [] a0b 0 _ rfl rfl rfl h rfl rfl (by unfold a0b;omega)];by_cases h':a=b
  ·rw[if_pos h',decide_eq_true h'];rfl
  ·rw[if_neg h',decide_eq_false h'];rfl
 ·rw[decide_eq_false (show ¬((a.length:Nat):Int)=(b.length:Nat) by omega),decide_eq_false (fun k:a=b=>h (by rw[k]))];rfl
theorem t0t (n:Nat) (a b:List Slo) (hL:a.length≤9223372036854775807):∀(ra rb pa pb:List Slo) (f:Nat) (ix len:Int),a=pa++ra→b=pb++rb→pa.length=pb.length→ra.length=rb.length→ix=pa.length→len=a.length→ra.length<f →
  f0l n f (a,b,len,ix,())=some (if ra=rb then .inl () else .inr false):=by
 intro ra;induction ra with
 | nil =>
  intro rb pa pb f ix len ha hb hp hr hi hn hf;obtain ⟨f,rfl⟩:∃g,f=g+1:=⟨f-1,by simp at hf;omega⟩;have e:rb=[]:=List.length_eq_zero_iff.1 (by simpa using hr.symm);subst e;rw[j0h,decide_eq_false (idxe ha hi hn),tff,if_pos rfl]
 | cons x ra ih =>
  intro rb pa pb f ix len ha hb hp hr hi hn hf;obtain ⟨f,rfl⟩:∃g,f=g+1:=⟨f-1,by simp at hf;omega⟩;cases rb with
  | nil=>simp at hr
  | cons y rb =>
   have hlen:=congrArg List.length ha;simp at hlen;rw[j0h,decide_eq_true (idx ha hi hn),tft,c0l ha hi,c0l hb (by omega)];simp only[obs,sloEq];rw[w64 (x:=ix+1) (by omega) (by omega)];by_cases h:x=y
   ·subst h;simp only[decide_true,Bool.not_true,tff];rw[ih rb (pa++[x]) (pb++[x]) f (ix+1) len (idxl ha) (idxl hb) (by simp;omega) (by simpa using hr) (idxs hi) hn (by simp at hf;omega)];simp
   ·rw[if_neg (by simp[h])];simp only[decide_eq_false h,Bool.not_false,tft]
theorem h0y (n:Nat) (a b:List Slo) (hL:a.length≤9223372036854775807):g0a (n+1) a b=some (decide (a=b)):=by
 rw[w0y];by_cases h:a.length=b.length
 ·rw[decide_eq_true (show ((a.length:Nat):Int)=(b.length:Nat) by omega)];simp only[Bool.not_true,tff];rw[t0t n a b hL a b [] [] a0b 0 _ rfl rfl rfl h rfl rfl (by unfold a0b;omega)];by_cases h':a=b
  ·rw[if_pos h',decide_eq_true h'];rfl
  ·rw[if_neg h',decide_eq_false h'];rfl
 ·rw[decide_eq_false (show ¬((a.length:Nat):Int)=(b.length:Nat) by omega),decide_eq_false (fun k:a=b=>h (by rw[k]))];rfl
noncomputable instance decSer (a b:Ser):Decidable (a=b):=Classical.propDecidable _
structure SerM (s:Ser):Prop where
 l:s.1.length≤9223372036854775807
 r:s.2.2.1.2.2.length≤9223372036854775807
 a:s.2.2.2.1.1.length≤9223372036854775807
 b:s.2.2.2.1.2.1.length≤9223372036854775807
 d:s.2.2.2.1.2.2.length≤9223372036854775807
theorem n1s (n:Nat) (a b:Ser) (h:SerM a):j0k (n+3) a b=some (decide (a=b)):=by
 rw[b1n,t0m,o1b,l0w n _ _ h.l,v0r n _ _ h.r,h0y (n+1) _ _ h.a,h0y (n+1) _ _ h.b,h0y (n+1) _ _ h.d];obtain ⟨a1,a2,⟨r1,r2,r3⟩,⟨t1,t2,t3⟩,a5⟩:=a;obtain ⟨b1,b2,⟨q1,q2,q3⟩,⟨u1,u2,u3⟩,b5⟩:=b;simp only[obs,sloEq,tfd];by_cases h1:a1=b1
 case neg=>simp[h1]
 by_cases h2:a2=b2
 case neg=>simp[h1,h2]
 by_cases h3:r1=q1
 case neg=>simp[h1,h2,h3]
 by_cases h4:r2=q2
 case neg=>simp[h1,h2,h3,h4]
 by_cases h5:r3=q3
 case neg=>simp[h1,h2,h3,h4,h5]
 by_cases h6:t1=u1
 case neg=>simp[h1,h2,h3,h4,h5,h6]
 by_cases h7:t2=u2
 case neg=>simp[h1,h2,h3,h4,h5,h6,h7]
 by_cases h8:t3=u3
 case neg=>simp[h1,h2,h3,h4,h5,h6,h7,h8]
 by_cases h9:a5=b5
 case neg=>simp[h1,h2,h3,h4,h5,h6,h7,h8,h9]
 simp[h1,h2,h3,h4,h5,h6,h7,h8,h9]
def oldV (now w m:Int):Int×Int:=if OfP now w∧1≤m∧m≤4096 then (if 0<now / w+1-m then now / w+1-m else 0,0) else (0,1)
theorem s0a (n:Nat) (now w m:Int):l0b (n+4) now w m=some (oldV now w m):=by
 rw[i1q,wi_of n now w,i1o];unfold oldV;by_cases h:OfP now w
 case neg=>rw[if_neg h,if_neg (fun k=>h k.1)];rfl
 rw[if_pos h];have hq:=k1a h;simp only[obs,decide_true,Bool.not_true,tff];by_cases h1:1≤m
 case neg=>simp[h,h1]
 by_cases h2:m≤4096
 case neg=>simp[h,h1,h2]
 rw[w64 (x:=now / w+1) (by omega) (by omega),w64 (x:=now / w+1-m) (by omega) (by omega)];simp[h,h1,h2]
noncomputable def o0o (t now w m:Int):Bool:=decide (OfP t w∧(oldV now w m).2=0∧t / w<(oldV now w m).1)
theorem m1k (n:Nat) (t now w m:Int):y0o (n+5) t now w m=some (o0o t now w m):=by
 rw[s1w,wi_of (n+1) t w,s0a n now w m];unfold o0o;simp only[obs,tfd];by_cases h:OfP t w
 case neg=>rw[if_neg h,if_neg (by simp),decide_eq_false (fun k=>h k.1)]
 rw[if_pos h,if_pos rfl];by_cases h1:(oldV now w m).2=0
 ·rw[if_pos h1];exact congrArg some (decide_eq_decide.2 ⟨fun k=>⟨h,h1,k⟩,fun k=>k.2.2⟩)
 ·rw[if_neg h1,decide_eq_false (fun k=>h1 k.2.1)]
noncomputable def l0a (c:Conf) (last now:Int):Bool :=
 decide (OkC c)&&(o0o last now c.2.1.1 c.2.2.1.1&&(o0o last now c.2.1.2.1 c.2.2.1.2.1&&o0o last now c.2.1.2.2 c.2.2.1.2.2))
theorem r0h (n:Nat) (c:Conf) (last now:Int):j0l (n+6) c last now=some (l0a c last now):=by
 rw[b1o,l0y (n+2) c,m1k n,m1k n,m1k n];unfold l0a;by_cases h:OkC c
 case neg=>rw[if_neg h,decide_eq_false h];rfl
 rw[if_pos h,decide_eq_true h];simp only[obs,decide_true,tft,Bool.true_and];cases o0o last now c.2.1.1 c.2.2.1.1<;>cases o0o last now c.2.1.2.1 c.2.2.1.2.1<;>cases o0o last now c.2.1.2.2 c.2.2.1.2.2<;>rfl
noncomputable def newV (c:Conf) (l:List Lab):Ser×Int :=
 if OkC c then (if LabOk l then ((l,(-1,(r0w,(emp c,s0)))),0) else (ser0,8)) else (ser0,2)
theorem r0p (n:Nat) (l:List Lab) (h:l.length≤1000000):d0z (n+1) l=some l:=by
 rw[u0y,decide_eq_true (show (0+l.length)*32≤140737488355328 by omega)];simp only[tft,List.nil_append];by_cases h0:l.length=0
 ·rw[decide_eq_true h0,tft,List.length_eq_zero_iff.1 h0,m1a]
 ·rw[decide_eq_false h0,tff]
theorem t1w (n:Nat) (c:Conf) (l:List Lab):p0n (n+7) c l=some (newV c l):=by
 rw[f1c,l0y (n+3) c,j0q n l];unfold newV;by_cases h:OkC c
 case neg=>rw[if_neg h,if_neg h];rfl
 rw[if_pos h,if_pos h];simp only[obs,decide_true,Bool.not_true,tff];by_cases h1:LabOk l
 case neg=>rw[if_neg h1,if_neg h1];rfl
 rw[if_pos h1,if_pos h1,r0p (n+5) l (by have:=h1.n1;omega),v1h (n+2) c];rfl
abbrev Sta:=Conf×(Int×(Int×List Ser))
structure StaW (s:Sta):Prop where
 len:s.2.2.2.length≤9223372036854775807
 ser:∀x∈s.2.2.2,SerW x∧SerM x
def Whole (s:Sta):Prop:=OkC s.1∧(s.2.2.2.length:Int)=s.1.2.2.2.1
noncomputable instance (s):Decidable (Whole s):=Classical.propDecidable _
def LvX (s:Sta) (x:Ser):Prop:=x≠ser0∧(s.2.2.1 = -1∨l0a s.1 x.2.1 s.2.2.1=false)
noncomputable instance (s x):Decidable (LvX s x):=Classical.propDecidable _
def o0t (t:Int):Prop:=0≤t∧t<35184372088832
instance (t):Decidable (o0t t):=by unfold o0t;infer_instance
def Clock (s:Sta):Prop:=o0t s.2.1∧(s.2.2.1 = -1∨o0t s.2.2.1)∧s.2.2.1≤s.2.1
instance (s):Decidable (Clock s):=by unfold Clock;infer_instance
def mk (s:Sta):Int:=s.2.1 / s.1.2.1.1*s.1.2.1.1
def Twin (s:Sta) (i:Nat) (x:Ser):Prop:=LvX s x∧∃k,k<i∧∃y,s.2.2.2[k]? = some y∧LvX s y∧y.1=x.1
noncomputable instance (s i x):Decidable (Twin s i x):=Classical.propDecidable _
def o0u (s:Sta) (i:Nat) (x:Ser):Prop:=x=ser0∨(SerOk s.1 x∧0≤x.2.1∧x.2.1<mk s+s.1.2.1.1∧¬Twin s i x)
noncomputable instance (s i x):Decidable (o0u s i x):=Classical.propDecidable _
structure StaOk (s:Sta):Prop where
 whole:Whole s
 clock:Clock s
 right:∀(i:Nat) x,s.2.2.2[i]? = some x→o0u s i x
noncomputable instance (s):Decidable (StaOk s):=Classical.propDecidable _
theorem Whole.len {s:Sta} (h:Whole s):s.2.2.2.length≤65536:=by
 have:=h.1.rng.cap;have:=h.2;omega
theorem i1g {α:Type} {l:List α} {i:Nat} {x:α} (h:l[i]? = some x):at? l (i:Int)=some x:=by
 unfold at?;rw[decide_eq_true (show (0:Int)≤(i:Int) by omega),Int.toNat_natCast];exact h
theorem StaW.at {s:Sta} (h:StaW s) {i:Nat} {x:Ser} (hx:s.2.2.2[i]? = some x):SerW x∧SerM x:=h.ser x (List.mem_of_getElem? hx)
theorem ser0_m:SerM ser0:=⟨by simp[ser0],by simp[ser0,r0w],by simp[ser0],by simp[ser0],by simp[ser0]⟩
theorem q1o (n:Nat) {x:Ser} (h:SerM x):s0m (n+4) x=some (decide (x=ser0)):=by
 have:=n1s n x ser0 h;rw[j1f];have e:j0k (n+3) x ([],((0:Int),(((0:Int),((0:Int),[])),(([],([],[])),((0:Int),z0)))))=some (decide (x=ser0)):=this
 change a0a (j0k (n+3) x ([],((0:Int),(((0:Int),((0:Int),[])),(([],([],[])),((0:Int),z0)))))) _=_
 rw[e];rfl
theorem p0g (n:Nat) {s:Sta} {i:Nat} {x:Ser} (hx:s.2.2.2[i]? = some x) (hm:SerM x):c0k (n+7) s (i:Int)=some (decide (LvX s x)):=by
 rw[u0r,i1g hx,obs,q1o (n+2) hm,obs,tfn,tfd,r0h n];by_cases h:x=ser0
 ·rw[if_pos h,decide_eq_false (fun k:LvX s x=>k.1 h)]
 rw[if_neg h,tfd];by_cases h1:s.2.2.1 = -1
 ·rw[if_pos h1,decide_eq_true (show LvX s x from ⟨h,.inl h1⟩)]
 ·rw[if_neg h1];cases hd:l0a s.1 x.2.1 s.2.2.1
  ·rw[decide_eq_true (show LvX s x from ⟨h,.inr hd⟩)];rfl
  ·rw[decide_eq_false (fun k:LvX s x=>by rcases k.2 with k | k;exact h1 k;rw[hd] at k;cases k)];rfl
theorem place_l (n:Nat) (is:(Int×Unit)→Option Bool) (p:Nat→Bool) (L:Nat) (hL:L≤1000000) (his:∀k:Nat,k<L→is ((k:Int),())=some (p k)):∀(d k f:Nat),k+d=L→d<f →
  (∃m:Nat,k≤m∧m<L∧p m=true∧(∀j,k≤j→j<m→p j=false)∧b0w n f (is,(L:Int),(k:Int),())=some (.inr (m:Int))) ∨
  ((∀j,k≤j→j<L→p j=false)∧b0w n f (is,(L:Int),(k:Int),())=some (.inl ())):=by
 intro d;induction d with
 | zero =>
  intro k f hk hf;obtain ⟨f,rfl⟩:∃g,f=g+1:=⟨f-1,by omega⟩;refine .inr ⟨fun j h1 h2=>by omega,?_⟩;rw[i0f,decide_eq_false (by omega),tff]
 | succ d ih =>
  intro k f hk hf;obtain ⟨f,rfl⟩:∃g,f=g+1:=⟨f-1,by omega⟩;rw[i0f,decide_eq_true (by omega),tft,his k (by omega),obs];cases hp:p k
  ·rw[tff,w64 (by omega) (by omega),show ((k:Int)+1)=((k+1:Nat):Int) by omega];rcases ih (k+1) f (by omega) (by omega) with ⟨m,h1,h2,h3,h4,h5⟩ | ⟨h1,h2⟩
   ·exact .inl ⟨m,by omega,h2,h3,fun j q1 q2=>by
     rcases Nat.lt_or_ge k j with q | q
     ·exact h4 j (by omega) q2
     ·rw[show j=k by omega];exact hp,h5⟩
   ·exact .inr ⟨fun j q1 q2=>by
     rcases Nat.lt_or_ge k j with q | q
     ·exact h1 j (by omega) q2
     ·rw[show j=k by omega];exact hp,h2⟩
  ·rw[tft];exact .inl ⟨k,Nat.le_refl _,by omega,hp,fun j q1 q2=>by omega,rfl⟩
theorem t0s (n:Nat) (s:Sta) (is:(Int×Unit)→Option Bool) (p:Nat→Bool) (hL:s.2.2.2.length≤1000000) (his:∀k:Nat,k<s.2.2.2.length→is ((k:Int),())=some (p k)) :
  (∃m:Nat,m<s.2.2.2.length∧p m=true∧(∀j,j<m→p j=false)∧d0a (n+1) s is=some (m:Int)) ∨
  ((∀j,j<s.2.2.2.length→p j=false)∧d0a (n+1) s is=some (-1)):=by
 rw[u0q];rcases place_l n is p _ hL his s.2.2.2.length 0 a0b (by omega) (by unfold a0b;omega) with ⟨m,h1,h2,h3,h4,h5⟩ | ⟨h1,h2⟩
 ·refine .inl ⟨m,h2,h3,fun j q=>h4 j (by omega) q,?_⟩;have h5':b0w n a0b (is,(s.2.2.2.length:Int),(0:Int),())=some (.inr (m:Int)):=h5;rw[h5'];rfl
 ·refine .inr ⟨fun j q=>h1 j (by omega) q,?_⟩;have h2':b0w n a0b (is,(s.2.2.2.length:Int),(0:Int),())=some (.inl ()):=h2;rw[h2'];rfl
theorem d1j (n:Nat) (a b:List Lab) (h:a.length≤9223372036854775807):l0q (n+2) a b=some (decide (a=b)):=by
 rw[t0m,l0w n a b h];rfl
def IsTw (s:Sta) (i k:Nat) (x:Ser):Prop:=k=i∨∃y,s.2.2.2[k]? = some y∧LvX s y∧y.1=x.1
noncomputable instance (s i k x):Decidable (IsTw s i k x):=Classical.propDecidable _
theorem st_twin (n:Nat) {s:Sta} (hw:StaW s) (hL:s.2.2.2.length≤1000000) {i:Nat} {x:Ser} (hx:s.2.2.2[i]? = some x):m0l (n+9) s (i:Int)=some (decide (Twin s i x)):=by
 have hil:i<s.2.2.2.length:=(List.getElem?_eq_some_iff.1 hx).1;have hm:=(hw.at hx).2;rw[w0w];have his:∀k:Nat,k<s.2.2.2.length→(fun y0:Int×Unit=>e0j (n+8) y0.1 (i:Int) s) ((k:Int),())=some (decide (IsTw s i k x)):=by
  intro k hk;have hy:s.2.2.2[k]? = some s.2.2.2[k]:=List.getElem?_eq_getElem hk;generalize s.2.2.2[k]=y at hy;have hmy:=(hw.at hy).2;show e0j (n+8) (k:Int) (i:Int) s=_;rw[s0k,tfd,p0g n hy hmy,obs,i1g hy,obs,i1g hx,obs,d1j (n+5) _ _ hmy.l,obs,tfd];by_cases h1:k=i
  ·rw[if_pos (by rw[h1]),decide_eq_true (show IsTw s i k x from .inl h1)]
  rw[if_neg (by omega)];by_cases h2:LvX s y
  ·rw[if_pos h2];refine congrArg some (decide_eq_decide.2 ⟨fun h3 => .inr ⟨y,hy,h2,h3⟩,fun h3 => ?_⟩);rcases h3 with h3 | ⟨z,z1,z2,z3⟩
   ·exact absurd h3 h1
   ·rw[hy] at z1;cases z1;exact z3
  ·rw[if_neg h2,decide_eq_false];rintro (h3 | ⟨z,z1,z2,z3⟩)
   ·exact h1 h3
   ·rw[hy] at z1;cases z1;exact h2 z2
 rcases t0s (n+7) s (fun y0:Int×Unit=>e0j (n+8) y0.1 (i:Int) s) (fun k=>decide (IsTw s i k x)) hL his with ⟨m,h1,h2,h3,h4⟩ | ⟨h1,h2⟩
 ·rw[h4,obs,tfd,p0g (n+1) hx hm];have h2:=of_decide_eq_true h2;have hmi:m≤i:=by
   rcases Nat.lt_or_ge i m with q | q
   ·have:=of_decide_eq_false (h3 i q);exact absurd (.inl rfl) this
   ·exact q
  by_cases q:m<i
  ·rw[if_pos (by omega),obs];refine congrArg some (decide_eq_decide.2 ⟨fun k=>⟨k,m,q,?_⟩,fun k=>k.1⟩);exact h2.resolve_left (by omega)
  ·rw[if_neg (by omega),decide_eq_false];rintro ⟨k1,k,k2,k3⟩;exact of_decide_eq_false (h3 k (by omega)) (.inr k3)
 ·exact absurd (.inl rfl) (of_decide_eq_false (h1 i hil))
theorem t0j {s:Sta} (h:o0t s.2.1) (hw:1≤s.1.2.1.1∧s.1.2.1.1≤1099511627776):0≤mk s∧mk s≤s.2.1∧s.2.1<mk s+s.1.2.1.1∧s.2.1-s.2.1 % s.1.2.1.1=mk s:=by
 have e:=Int.mul_ediv_add_emod s.2.1 s.1.2.1.1;have e1:=Int.emod_nonneg s.2.1 (show s.1.2.1.1≠0 by omega);have e2:=Int.emod_lt_of_pos s.2.1 (show 0<s.1.2.1.1 by omega);rw[Int.mul_comm] at e;have e3:0≤mk s:=Int.mul_nonneg (Int.ediv_nonneg h.1 (by omega)) (by omega);unfold mk at *
 exact ⟨e3,by omega,by omega,by omega⟩
theorem x1s (n:Nat) {s:Sta} (h:o0t s.2.1) (hw:1≤s.1.2.1.1∧s.1.2.1.1≤1099511627776):i0m (n+1) s=some (mk s):=by
 have:=t0j h hw;have:=h.1;have:=h.2;rw[w0x,tfd,if_neg (by omega),n0v h.1,w64 (by omega) (by omega),(t0j h hw).2.2.2]
theorem st_right (n:Nat) {s:Sta} (hw:StaW s) (hh:Whole s) (ht:o0t s.2.1) {i:Nat} {x:Ser} (hx:s.2.2.2[i]? = some x):k0q (n+12) s (i:Int)=some (decide (o0u s i x)):=by
 have hm:=hw.at hx;have hr:=hh.1.rng;have hL:=hh.len;have hmk:=t0j ht hr.w0;have ht1:=ht.1;have ht2:=ht.2;have hw0:=hr.w0;obtain ⟨m1,m2,m3,m4⟩:=hmk;rw[u0p,i1g hx,obs,q1o (n+7) hm.2,obs,tfd,j1o n s.1 hm.1,obs,x1s (n+10) ht hr.w0,obs,w64 (by omega) (by omega),st_twin (n+2) hw (by omega) hx,obs];simp only[tfd];by_cases h0:x=ser0
 ·rw[if_pos h0,decide_eq_true (show o0u s i x from .inl h0)]
 rw[if_neg h0];by_cases h1:SerOk s.1 x
 case neg=>rw[if_neg h1,if_neg (by decide),decide_eq_false (fun q:o0u s i x=>by rcases q with k | k;exact h0 k;exact h1 k.1)]
 rw[if_pos h1,if_pos rfl];by_cases h2:0≤x.2.1
 case neg=>rw[if_neg h2,decide_eq_false (fun q:o0u s i x=>by rcases q with k | k;exact h0 k;exact h2 k.2.1)]
 rw[if_pos h2];by_cases h3:x.2.1<mk s+s.1.2.1.1
 case neg=>rw[if_neg h3,decide_eq_false (fun q:o0u s i x=>by rcases q with k | k;exact h0 k;exact h3 k.2.2.1)]
 rw[if_pos h3];by_cases h4:Twin s i x
 ·rw[decide_eq_true h4,decide_eq_false (fun q:o0u s i x=>by rcases q with k | k;exact h0 k;exact k.2.2.2 h4)];rfl
 ·rw[decide_eq_false h4,decide_eq_true (show o0u s i x from .inr ⟨h1,h2,h3,h4⟩)];rfl
def sta0:Sta:=(((0:Int),(((0:Int),((0:Int),(0:Int))),(((0:Int),((0:Int),(0:Int))),((0:Int),(0:Int))))),((0:Int),((0:Int),[])))
theorem u0u (n:Nat) (s:Sta):k0a (n+4) s=some (if Whole s then (s,0) else (sta0,2)):=by
 rw[m1z,l0y n s.1,obs,tfn,tfd,tfn,tfd];by_cases h:OkC s.1
 case neg=>rw[if_neg h,if_neg (show ¬((2:Int)=0) by decide),if_neg (fun k:Whole s=>h k.1)];rfl
 rw[if_pos h,if_pos rfl];by_cases h1:(s.2.2.2.length:Int)=s.1.2.2.2.1
 ·rw[if_pos h1,if_pos (show Whole s from ⟨h,h1⟩)]
 ·rw[if_neg h1,if_neg (fun k:Whole s=>h1 k.2)];rfl
theorem n1i (n:Nat) (t:Int):s0l (n+1) t=some (decide (o0t t)):=by
 rw[m1y,tfd];by_cases h:0≤t
 ·rw[if_pos h];exact congrArg some (decide_eq_decide.2 ⟨fun k=>⟨h,k⟩,fun k=>k.2⟩)
 ·rw[if_neg h,decide_eq_false (fun k:o0t t=>h k.1)]
theorem st_clock (n:Nat) (s:Sta):k0r (n+2) s=some (decide (Clock s)):=by
 rw[u0s,n1i n,n1i n,obs,obs];simp only[tfd];by_cases h:o0t s.2.1
 case neg=>rw[if_neg h,decide_eq_false (fun k:Clock s=>h k.1)]
 rw[if_pos h];by_cases h1:s.2.2.1 = -1
 ·rw[if_pos h1];exact congrArg some (decide_eq_decide.2 ⟨fun k=>⟨h,.inl h1,k⟩,fun k=>k.2.2⟩)
 rw[if_neg h1];by_cases h2:o0t s.2.2.1
 ·rw[if_pos h2];exact congrArg some (decide_eq_decide.2 ⟨fun k=>⟨h,.inr h2,k⟩,fun k=>k.2.2⟩)
 ·rw[if_neg h2,decide_eq_false (fun k:Clock s=>by rcases k.2.1 with q | q;exact h1 q;exact h2 q)]
def Wrong (s:Sta) (k:Nat):Prop:=∃x,s.2.2.2[k]? = some x∧¬o0u s k x
noncomputable instance (s k):Decidable (Wrong s k):=Classical.propDecidable _
theorem h0g (n:Nat) {s:Sta} (hw:StaW s):f0i (n+14) s=some (if StaOk s then 0 else 2):=by
 rw[j1h,u0u (n+9) s,obs,tfn,tfd];by_cases h:Whole s
 case neg=>rw[if_neg h,if_neg (show ¬((sta0,(2:Int)).2=0) by decide),if_neg (fun k:StaOk s=>h k.whole)]
 rw[if_pos h,if_pos rfl,st_clock (n+11) s,obs,tfn,tfd];by_cases h1:Clock s
 case neg=>rw[if_neg h1,if_neg (fun k:StaOk s=>h1 k.clock)]
 rw[if_pos h1];have hL:=h.len;have his:∀k:Nat,k<s.2.2.2.length→(fun y2:Int×Unit=>d0q (n+13) y2.1 s) ((k:Int),())=some (decide (Wrong s k)):=by
  intro k hk;have hy:s.2.2.2[k]? = some s.2.2.2[k]:=List.getElem?_eq_getElem hk;generalize s.2.2.2[k]=y at hy;show d0q (n+13) (k:Int) s=_;rw[b1l,st_right n hw h h1.1 hy,obs];by_cases q:o0u s k y
  ·rw[decide_eq_true q,decide_eq_false (fun z:Wrong s k=>by obtain ⟨x,x1,x2⟩:=z;rw[hy] at x1;cases x1;exact x2 q)];rfl
  ·rw[decide_eq_false q,decide_eq_true (show Wrong s k from ⟨y,hy,q⟩)];rfl
 rcases t0s (n+12) s (fun y2:Int×Unit=>d0q (n+13) y2.1 s) (fun k=>decide (Wrong s k)) (by omega) his with ⟨m,q1,q2,q3,q4⟩ | ⟨q1,q2⟩
 ·rw[show (fun y2:Int×Unit=>d0q (n+13) y2.1 (s,(0:Int)).1)=fun y2:Int×Unit=>d0q (n+13) y2.1 s from rfl];obtain ⟨x,x1,x2⟩:=of_decide_eq_true q2;rw[q4,obs,tfd,if_pos (by omega),if_neg (fun k:StaOk s=>x2 (k.right m x x1))]
 ·rw[show (fun y2:Int×Unit=>d0q (n+13) y2.1 (s,(0:Int)).1)=fun y2:Int×Unit=>d0q (n+13) y2.1 s from rfl];rw[q2,obs,tfd,if_neg (by decide),if_pos];refine ⟨h,h1,fun i x hx => ?_⟩;have:=of_decide_eq_false (q1 i (List.getElem?_eq_some_iff.1 hx).1);exact Decidable.byContradiction fun k=>this ⟨x,hx,k⟩
end Go.Proofs.YtojobamheigpbaaGreatDoor
namespace Go.Proofs.YtojobamheigpbaaGreatDoor
open Go.Flat Go.Plim
set_option linter.unusedVariables false
def o0v (c:Conf) (s:Trs) (o:Slo) (l:List Ev):Prop :=
 (l=[]∧o=s0∧∀t,FInv c s [] t)∨∃t,EndsAt l t∧FInv c s l t∧o=(t / c.2.1.1,cellOf (win c.2.1.1 l (t / c.2.1.1)))
theorem emp_inv {c:Conf} (h:OkC c):o0v c (emp c) s0 []:=by
 have hr:=h.rng;have n0:=hr.n0;have n1:=hr.n1;have n2:=hr.n2;refine .inl ⟨rfl,rfl,fun t => ?_⟩;have e:emp c=(List.replicate c.2.2.1.1.toNat s0,(List.replicate c.2.2.1.2.1.toNat s0,List.replicate c.2.2.1.2.2.toNat s0)):=if_pos h;have i0:TierInv (List.replicate c.2.2.1.1.toNat s0) c.2.1.1 []:=r0d (by omega) (by omega) hr.w0.1 hr.w0.2;have i1:TierInv (List.replicate c.2.2.1.2.1.toNat s0) c.2.1.2.1 []:=r0d (by omega) (by omega) hr.w1.1 hr.w1.2;have i2:TierInv (List.replicate c.2.2.1.2.2.toNat s0) c.2.1.2.2 []:=r0d (by omega) (by omega) hr.w2.1 hr.w2.2;rw[e]
 exact ⟨⟨h,by simp;omega,by simp;omega,by simp;omega,i0.ok,i1.ok,i2.ok⟩,i0,i1,i2⟩
theorem o0v.fold {c:Conf} {s:Trs} {o:Slo} {l:List Ev} (h:o0v c s o l):FoldOk c s:=by
 rcases h with ⟨_,_,h⟩ | ⟨t,_,h,_⟩
 ·exact (h 0).ok
 ·exact h.ok
theorem t0v {l:List Ev} {e:Ev} (h:Foll (l++[e])):EndsAt (l++[e]) e.1 :=
 ⟨h,fun x hx=>by
  rcases List.mem_append.1 hx with hx | hx
  ·have:=(a0v.1 h).2.2 x hx e (by simp);omega
  ·simp at hx;rw[hx];exact Int.le_refl _,⟨e,by simp,rfl⟩⟩
theorem l1g {e:Ev} (h:EvOk e) {w:Int} (hw:1≤w):f0w w (e.1 / w):=d1t hw ⟨h.t0,by have:=h.t1;omega⟩
def Turn (o:Slo) (i:Int):Prop:=0<o.2.1∧o.1≠i
theorem k1k {c:Conf} {s:Trs} {o:Slo} {l:List Ev} {e:Ev} (h:o0v c s o l) (hf:Foll (l++[e])) (ht:Turn o (e.1 / c.2.1.1)) :
  ∃s',i0k c s o (e.1 / c.2.1.1)=(s',0)∧mrgE z0 (b0r e)=(b0r e,0)∧o0v c s' (e.1 / c.2.1.1,b0r e) (l++[e]):=by
 rcases h with ⟨_,ho,_⟩ | ⟨t,he,hi,ho⟩
 ·have:=ht.1;rw[ho] at this;simp[s0,z0] at this
 have hr:=hi.ok.cok.rng;have hoe:=hf.ok e (by simp);have o1:o.1=t / c.2.1.1:=by rw[ho]
 have o2:o.2=cellOf (win c.2.1.1 l (t / c.2.1.1)):=by rw[ho]
 have hne:t / c.2.1.1≠e.1 / c.2.1.1:=by rw[←o1];exact ht.2
 obtain ⟨x,hx,hxt⟩:=he.last;have htu:t<e.1:=by have:=(a0v.1 hf).2.2 x hx e (by simp);omega
 obtain ⟨hfit,hfi⟩:=v1n hi he htu hne;have hle:t / c.2.1.1≤e.1 / c.2.1.1:=Int.ediv_le_ediv (by have:=hr.w0;omega) (by omega);refine ⟨_,?_,o1o (g0h hoe).ok,.inr ⟨e.1,t0v hf,l1e hfi,?_⟩⟩
 ·unfold i0k;rw[if_pos hi.ok,if_neg (fun k:o=s0=>by have:=ht.1;rw[k] at this;simp[s0,z0] at this),o1,o2,if_pos hfit,if_neg hne,if_pos ⟨hle,l1g hoe hr.w0.1⟩]
 ·rw[win_snoc,if_pos rfl];have:win c.2.1.1 l (e.1 / c.2.1.1)=[]:=by
   unfold win;rw[List.filter_eq_nil_iff];intro y hy;have:=he.wle hr.w0.1 y hy;simp;omega
  rw[this,List.nil_append,i0w]
theorem k1l {c:Conf} {s:Trs} {o:Slo} {l:List Ev} {e:Ev} (h:o0v c s o l) (hf:Foll (l++[e])) (ht:¬Turn o (e.1 / c.2.1.1)) :
  b0u o.2∧(mrgE o.2 (b0r e)).2=0∧o0v c s (e.1 / c.2.1.1,(mrgE o.2 (b0r e)).1) (l++[e]):=by
 have hoe:=hf.ok e (by simp);rcases h with ⟨hl,ho,hi⟩ | ⟨t,he,hi,ho⟩
 ·subst hl;have e2:o.2=z0:=by rw[ho];rfl
  rw[e2,o1o (g0h hoe).ok];refine ⟨u1t,rfl,.inr ⟨e.1,t0v hf,l1e (hi e.1),?_⟩⟩;rw[win_snoc,if_pos rfl];have:win c.2.1.1 [] (e.1 / c.2.1.1)=[]:=rfl;rw[this,List.nil_append,i0w]
 ·have hr:=hi.ok.cok.rng;have o1:o.1=t / c.2.1.1:=by rw[ho]
  have o2:o.2=cellOf (win c.2.1.1 l (t / c.2.1.1)):=by rw[ho]
  obtain ⟨hf0,_⟩:=f0x he hi.i0;have hw:t / c.2.1.1=e.1 / c.2.1.1:=by
   by_cases k:o.1=e.1 / c.2.1.1
   ·rw[←o1];exact k
   ·exact absurd ⟨by rw[o2];have:=hf0.n.n1;omega,k⟩ ht
  have hwf:Foll (win c.2.1.1 l (e.1 / c.2.1.1)++[e]):=by
   have:=r0x (w:=c.2.1.1) hf (e.1 / c.2.1.1)
   rwa [win_snoc,if_pos rfl] at this
  have hm:=(z1j (a0v.1 hwf).1 hoe).1 hwf;rw[o2,hw,hm];refine ⟨h0p (a0v.1 hwf).1,rfl,.inr ⟨e.1,t0v hf,b2a hi hw,?_⟩⟩;rw[win_snoc,if_pos rfl]
end Go.Proofs.YtojobamheigpbaaGreatDoor
namespace Go.Proofs.YtojobamheigpbaaGreatDoor
open Go.Flat Go.Plim
set_option linter.unusedVariables false
set_option linter.unusedSimpArgs false
def n0t (room:Int) (l:List Ev):Rw :=
 (if (l.length:Int)≤room then 0 else (l.length:Int)-room,(if (l.length:Int)≤room then 0 else ((l[l.length-room.toNat-1]?).getD e0).1,l.drop (l.length-room.toNat)))
theorem j1z {room:Int} (h:1≤room) (l:List Ev):((n0t room l).2.2.length:Int)=if (l.length:Int)≤room then (l.length:Int) else room:=by
 simp only[n0t,List.length_drop];split<;>omega
theorem u1i {room:Int} (h:1≤room) (l:List Ev) (e:Ev):h0w (n0t room l) room e=n0t room (l++[e]):=by
 have hlen:=j1z h l;unfold h0w;by_cases h1:(l.length:Int)<room
 ·rw[if_pos (Int.le_of_lt h1)] at hlen;rw[if_pos (by omega)];simp only[n0t,List.length_append,List.length_cons,List.length_nil];rw[if_pos (Int.le_of_lt h1),if_pos (Int.le_of_lt h1),if_pos (by omega),if_pos (by omega),show l.length-room.toNat=0 by omega,show l.length+(0+1)-room.toNat=0 by omega];rfl
 ·rw[if_neg (by rw[hlen];split<;>omega)];obtain ⟨d,hd⟩:∃d,d=l.length-room.toNat:=⟨_,rfl⟩;have hdl:d<l.length:=by omega
  have e1:(l++[e]).length-room.toNat=d+1:=by simp;omega
  have e2:¬(((l++[e]).length:Nat):Int)≤room:=by simp;omega
  unfold n0t;rw[if_neg e2,if_neg e2,e1,show d+1-1=d by omega,←hd,List.getElem?_append_left hdl,List.drop_append_of_le_length (by omega)];simp only[List.drop_drop,List.headD_eq_head?_getD,List.head?_drop];refine Prod.ext ?_ rfl;simp only[List.length_append,List.length_cons,List.length_nil];split<;>omega
theorem d1a {room:Int} (h:1≤room) (l:List Ev):(n0t room l).2.2.getLast? = l.getLast? := by
 simp only[n0t,List.getLast?_drop];by_cases h0:l=[]
 ·subst h0;simp
 ·have:0<l.length:=List.length_pos_iff.2 h0;rw[if_neg (by omega)]
theorem rawOf_ok {room:Int} (h:1≤room∧room≤4096) {l:List Ev} (hl:Foll l) (hL:l.length≤1000000):RawOk (n0t room l) room:=by
 have hlen:=j1z h.1 l;refine ⟨h.1,h.2,by rw[hlen];split<;>omega,?_,?_,?_,?_,?_⟩
 ·simp only[n0t];split<;>omega
 ·simp only[n0t];split<;>omega
 ·exact hl.sub (List.drop_sublist _ _)
 ·simp only[n0t];intro k;split
  ·rfl
  ·rename_i h1;rw[if_neg h1] at k;omega
 ·intro k;simp only[n0t] at k hlen ⊢;by_cases h1:(l.length:Int)≤room
  ·rw[if_pos h1] at k;exact absurd rfl k
  rw[if_neg h1] at hlen ⊢;obtain ⟨d,hd⟩:∃d,l.length-room.toNat=d+1:=⟨l.length-room.toNat-1,by omega⟩;rw[hd,show d+1-1=d by omega];have hdl:d<l.length:=by omega
  have hdl':d+1<l.length:=by omega
  rw[List.getElem?_eq_getElem hdl];refine ⟨by rw[←hlen,hd],((hl.ok _ (List.getElem_mem hdl)).t0),fun x hx => ?_⟩;rw[List.head?_drop,List.getElem?_eq_getElem hdl'] at hx;have:=List.pairwise_iff_getElem.1 hl.inc d (d+1) hdl hdl' (by omega);simp at hx;rw[←hx];exact this
structure SerInv (c:Conf) (s:Ser) (l:List Ev):Prop where
 lab:LabOk s.1
 len:l.length≤1000000
 raw:s.2.2.1=n0t c.1 l
 opn:o0v c s.2.2.2.1 s.2.2.2.2 l
 last:(l=[]∧s.2.1 = -1)∨EndsAt l s.2.1
theorem SerInv.foll {c:Conf} {s:Ser} {l:List Ev} (h:SerInv c s l):Foll l:=by
 rcases h.last with ⟨rfl,_⟩ | h
 ·exact Foll.nil
 ·exact h.foll
theorem k0k {l:List Ev} {t:Int} (h:EndsAt l t):∃e,l.getLast? = some e∧e.1=t:=by
 obtain ⟨x,hx,hxt⟩:=h.last;rcases List.eq_nil_or_concat l with rfl | ⟨p,y,rfl⟩
 ·cases hx
 rw[List.concat_eq_append] at *
 have h1:=h.le y (by simp);refine ⟨y,by simp,?_⟩;rcases List.mem_append.1 hx with q | q
 ·have:=(a0v.1 h.foll).2.2 x q y (by simp);omega
 ·simp at q;rw[←q];exact hxt
theorem b2n {l:List Ev} {t u:Int} (h:EndsAt l t) (k:EndsAt l u):t=u:=by
 obtain ⟨e,h1,h2⟩:=k0k h;obtain ⟨e',k1,k2⟩:=k0k k;rw[h1] at k1;simp at k1;rw[←h2,←k2,k1]
theorem b2o {l:List Ev} {t:Int} (h:EndsAt l t):l≠[]:=by
 obtain ⟨x,hx,_⟩:=h.last;exact List.ne_nil_of_mem hx
theorem SerInv.at_ {c:Conf} {s:Ser} {l:List Ev} (h:SerInv c s l) (hl:l≠[]):EndsAt l s.2.1∧FInv c s.2.2.2.1 l s.2.1∧s.2.2.2.2=(s.2.1 / c.2.1.1,cellOf (win c.2.1.1 l (s.2.1 / c.2.1.1))):=by
 have he:=h.last.resolve_left fun k=>hl k.1
 rcases h.opn with k | ⟨t,k1,k2,k3⟩
 ·exact absurd k.1 hl
 ·have:=b2n he k1;subst this;exact ⟨he,k2,k3⟩
theorem y0t {t:List Slo} {w:Int} (h:TierInv t w []):tall t=[]:=by
 cases hc:tall t with
 | nil=>rfl
 | cons x r =>
  have hx:x∈tall t:=by rw[hc];simp
  have h1:=h.cells x hx;have:=(l0d h.ok hx).1.n.n1;rw[h1] at this;simp[win,cellOf,z0] at this
theorem o0r {t:List Slo} {w u:Int} {l:List Ev} (h:TierInv t w (below w l u)) (hl:Foll l):a0q t (u / w):=by
 rw[w0m h.ok];intro x hx;have h1:=h.cells x hx;have hn:=(l0d h.ok hx).1.n;have hne:win w (below w l u) x.1≠[]:=fun k=>by
  rw[k] at h1;exact hn.ne h1
 obtain ⟨e,he⟩:=List.exists_mem_of_ne_nil _ hne;obtain ⟨k1,k2⟩:=v0i.1 he;have:=of_decide_eq_true (List.mem_filter.1 k1).2;omega
theorem l1x {w T:Int} {l:List Ev} (he:EndsAt l T):(cellOf (win w l (T / w))).2.2.1.1=T:=by
 obtain ⟨x,hx,hxt⟩:=he.last;have hm:x∈win w l (T / w):=v0i.2 ⟨hx,by rw[hxt]⟩;have hw:=r0x (w:=w) he.foll (T / w);have hh:=u0b hw (List.ne_nil_of_mem hm);have ew:EndsAt (win w l (T / w)) T:=⟨hw,fun y hy=>he.le y (v0i.1 hy).1,x,hm,hxt⟩;obtain ⟨e,k1,k2⟩:=k0k ew;have:=hh.last;rw[k1] at this;simp at this;rw[←this,k2]
theorem s0z {c:Conf} {s:Ser} {l:List Ev} (h:SerInv c s l):SerOk c s:=by
 have hf:=h.opn.fold;have hr:=hf.cok.rng;have hraw:RawOk s.2.2.1 c.1:=by rw[h.raw];exact rawOf_ok hr.raw h.foll h.len
 refine ⟨hf,h.lab,hraw,?_⟩;by_cases hl:l=[]
 ·subst hl;refine .inl ?_;have hlast:=h.last.resolve_right fun k=>b2o k rfl
  rcases h.opn with ⟨_,k1,k2⟩ | ⟨t,k1,_⟩
  ·have:=k2 0;exact ⟨hlast.2,by rw[h.raw];simp[n0t],k1,(z0w this.ok.t0).2 (y0t this.i0),(z0w this.ok.t1).2 (y0t this.i1),(z0w this.ok.t2).2 (y0t this.i2)⟩
  ·exact absurd rfl (b2o k1)
 ·obtain ⟨he,hi,ho⟩:=h.at_ hl;obtain ⟨x,hx,hxt⟩:=he.last;have:=(he.foll.ok x hx).t0;refine .inr ⟨by omega,?_,?_,?_,o0r hi.i0 he.foll,o0r hi.i1 he.foll,o0r hi.i2 he.foll⟩
  ·rw[h.raw,d1a hr.raw.1];exact k0k he
  ·rw[ho];exact l1x he
  ·rw[ho];exact (f0x he hi.i0).1
theorem serInv_w {c:Conf} {s:Ser} {l:List Ev} (h:SerInv c s l):SerW s:=by
 have hok:=s0z h;refine ⟨?_,fun e he=>EvW.of (hok.raw.f.ok e he),hok.fold.w,?_⟩
 ·by_cases hn:s.2.1 = -1
  ·rw[hn];unfold I64;omega
  ·have:=q1q hok hn;unfold I64;omega
 ·rcases h.opn with ⟨_,k,_⟩ | ⟨t,he,hi,ho⟩
  ·rw[k];exact u0v
  ·obtain ⟨x,hx,hxt⟩:=he.last;have hxo:=he.foll.ok x hx;have:=k1b hxo hi.ok.cok.rng.w0.1;rw[hxt] at this;rw[ho];exact ⟨by unfold I64;simp only;omega,.of (h0p (r0x he.foll _))⟩
theorem n1t {c:Conf} {s:Ser} {l:List Ev} {e:Ev} (h:SerInv c s l) (hf:Foll (l++[e])) (hL:l.length<1000000):∃s',putE c s e=(s',0)∧SerInv c s' (l++[e]):=by
 have hok:=s0z h;have hr:=hok.fold.cok.rng;have hoe:=hf.ok e (by simp);have hlt:s.2.1<e.1:=by
  rcases h.last with ⟨_,k⟩ | k
  ·have:=hoe.t0;omega
  ·obtain ⟨x,hx,hxt⟩:=k.last;have:=(a0v.1 hf).2.2 x hx e (by simp);omega
 have hraw:g0d s.2.2.1 c.1 e=(n0t c.1 (l++[e]),0):=by
  unfold g0d;rw[if_pos ⟨hok.raw,hoe⟩,if_pos,if_neg,h.raw,u1i hr.raw.1]
  ·rw[h.raw];intro k;have:=k.2;simp only[n0t] at this;split at this<;>omega
  ·intro q hq;rw[h.raw,d1a hr.raw.1] at hq;exact (a0v.1 hf).2.2 q (List.mem_of_getLast? hq) e (by simp)
 have hT:u0e s (e.1 / c.2.1.1)↔Turn s.2.2.2.2 (e.1 / c.2.1.1):=by
  unfold u0e Turn;have h0:0≤s.2.2.2.2.2.1:=by
   rcases h.opn with ⟨_,k,_⟩ | ⟨t,he,hi,ho⟩
   ·rw[k];decide
   ·rw[ho];exact (h0p (r0x he.foll _)).count.2
  refine ⟨fun ⟨k1,k2⟩=>⟨?_,k2⟩,fun ⟨k1,k2⟩=>⟨fun k => ?_,k2⟩⟩
  ·have:s.2.2.2.2.2.1≠0:=fun k=>k1 ((t0f hok).1 k)
   omega
  ·have:=(t0f hok).2 k;omega
 have hend:EndsAt (l++[e]) e.1:=t0v hf;have hlen:(l++[e]).length≤1000000:=by simp;omega
 unfold putE;rw[if_pos ⟨hok,hoe⟩,if_neg (by omega),hraw];by_cases ht:Turn s.2.2.2.2 (e.1 / c.2.1.1)
 ·obtain ⟨s',h1,h2,h3⟩:=k1k h.opn hf ht;have htd:turned c s (e.1 / c.2.1.1)=((s',s0),0):=by
   unfold turned;rw[if_pos (hT.2 ht),h1,if_pos rfl]
  have h2':mrgE s0.2 (b0r e)=(b0r e,0):=h2;rw[htd,if_neg (nn rfl),if_neg (nn rfl),h2',if_neg (nn rfl)];exact ⟨_,rfl,h.lab,hlen,rfl,h3,.inr hend⟩
 ·obtain ⟨h1,h2,h3⟩:=k1l h.opn hf ht;have htd:turned c s (e.1 / c.2.1.1)=((s.2.2.2.1,s.2.2.2.2),0):=by
   unfold turned;rw[if_neg (fun k=>ht (hT.1 k))]
  rw[htd,if_neg (nn rfl),if_neg (nn rfl),if_neg (nn h2)];exact ⟨_,rfl,h.lab,hlen,rfl,h3,.inr hend⟩
theorem l0u {a b:Int} (ha:1≤a) (hb:1≤b) (hm:b % a=0):0<b / a:=by
 rcases Int.lt_or_le 0 (b / a) with z | z
 ·exact z
 ·exfalso;have e:a*(b / a)=b:=by have:=Int.mul_ediv_add_emod b a;omega
  have:a*(b / a)≤a*0:=Int.mul_le_mul_of_nonneg_left z (by omega);omega
theorem f1q {c:Conf} {l:List Lab} (h:OkC c) (hl:LabOk l):SerInv c (l,(-1,(r0w,(emp c,s0)))) [] :=
 ⟨hl,by simp,by have:=h.rng.raw;simp[n0t,r0w];omega,emp_inv h,.inl ⟨rfl,rfl⟩⟩
noncomputable def h0x (s:Sta) (l:List Lab):Option Nat:=s.2.2.2.findIdx? fun x=>decide (x.1=l∧LvX s x)
noncomputable def o0d (s:Sta):Option Nat:=s.2.2.2.findIdx? fun x=>decide (¬LvX s x)
noncomputable def lvAt (s:Sta) (i:Nat):Bool:=match s.2.2.2[i]? with | some x=>decide (LvX s x) | none=>false
noncomputable def l0p (s:Sta):List Nat:=(List.range s.2.2.2.length).filter (lvAt s)
theorem d0k {s:Sta} {l:List Lab} {i:Nat}:h0x s l=some i↔∃x,s.2.2.2[i]? = some x∧x.1=l∧LvX s x∧∀j,j<i→∀y,s.2.2.2[j]? = some y→¬(y.1=l∧LvX s y):=by
 unfold h0x;rw[List.findIdx?_eq_some_iff_getElem];constructor
 ·rintro ⟨h,h1,h2⟩;have h1:=of_decide_eq_true h1;refine ⟨_,List.getElem?_eq_getElem h,h1.1,h1.2,fun j hj y hy => ?_⟩;obtain ⟨hjl,e⟩:=List.getElem?_eq_some_iff.1 hy;have:=h2 j hj;rw[e] at this
  simpa using this
 ·rintro ⟨x,hx,h1,h2,h3⟩;obtain ⟨hl,e⟩:=List.getElem?_eq_some_iff.1 hx;refine ⟨hl,by rw[e];exact decide_eq_true ⟨h1,h2⟩,fun j hj => ?_⟩;have:=h3 j hj _ (List.getElem?_eq_getElem (by omega))
  simpa using this
theorem f0u {s:Sta} {l:List Lab}:h0x s l=none↔∀x∈s.2.2.2,¬(x.1=l∧LvX s x):=by
 unfold h0x;rw[List.findIdx?_eq_none_iff];simp
theorem l0k {s:Sta} {i:Nat}:o0d s=some i↔∃x,s.2.2.2[i]? = some x∧¬LvX s x∧∀j,j<i→∀y,s.2.2.2[j]? = some y→LvX s y:=by
 unfold o0d;rw[List.findIdx?_eq_some_iff_getElem];constructor
 ·rintro ⟨h,h1,h2⟩;refine ⟨_,List.getElem?_eq_getElem h,of_decide_eq_true h1,fun j hj y hy => ?_⟩;obtain ⟨hjl,e⟩:=List.getElem?_eq_some_iff.1 hy;have:=h2 j hj;rw[e] at this
  simpa using this
 ·rintro ⟨x,hx,h1,h3⟩;obtain ⟨hl,e⟩:=List.getElem?_eq_some_iff.1 hx;refine ⟨hl,by rw[e];exact decide_eq_true h1,fun j hj => ?_⟩;have:=h3 j hj _ (List.getElem?_eq_getElem (by omega))
  simpa using this
theorem c1y {s:Sta}:o0d s=none↔∀x∈s.2.2.2,LvX s x:=by
 unfold o0d;rw[List.findIdx?_eq_none_iff];simp
theorem k1u {s:Sta} {i:Nat} {x:Ser} (h:s.2.2.2[i]? = some x):lvAt s i=decide (LvX s x):=by
 unfold lvAt;rw[h]
theorem a1j {s:Sta} (h:StaOk s) {i:Nat} {x:Ser} (hx:s.2.2.2[i]? = some x) (hl:LvX s x):h0x s x.1=some i:=by
 refine d0k.2 ⟨x,hx,rfl,hl,fun j hj y hy hn => ?_⟩;rcases h.right i x hx with k | k
 ·exact hl.1 k
 ·exact k.2.2.2 ⟨hl,j,hj,y,hy,hn.2,hn.1⟩
theorem r1m (s:Sta):(l0p s).length≤s.2.2.2.length:=by
 have:=List.length_filter_le (lvAt s) (List.range s.2.2.2.length)
 simpa [l0p] using this
noncomputable def d0f (s:Sta) (l:List Lab) (e:Ev):Int×(Bool×Int) :=
 if ¬StaOk s then (0,(false,2)) else if ¬LabOk l then (0,(false,8)) else if ¬EvOk e then (0,(false,2)) else
 if e.1<mk s∨mk s+s.1.2.1.1≤e.1 then (0,(false,9)) else
 match h0x s l with
 | some i=>if e.1≤((s.2.2.2[i]?).getD ser0).2.1 then (0,(false,9)) else ((i:Int),(false,0))
 | none=>if e.2.2.2=true then (0,(false,3)) else match o0d s with | some i=>((i:Int),(true,0)) | none=>(0,(false,7))
end Go.Proofs.YtojobamheigpbaaGreatDoor
namespace Go.Proofs.YtojobamheigpbaaGreatDoor
open Go.Flat
def rd (st:List UInt8×Bool) (k:Nat):Int×(List UInt8×Bool):=if st.2=true∨st.1.length<k then (0,([],true)) else (valI (h0s (st.1.take k)),(st.1.drop k,false))
def q0 (s:List UInt8):=rd (s,false) 4
def q1 (s:List UInt8):=rd (q0 s).2 8
def q2 (s:List UInt8):=rd (q1 s).2 8
def q3 (s:List UInt8):=rd (q2 s).2 8
def q4 (s:List UInt8):=rd (q3 s).2 4
def q5 (s:List UInt8):=rd (q4 s).2 4
def q6 (s:List UInt8):=rd (q5 s).2 4
def q7 (s:List UInt8):=rd (q6 s).2 4
def q8 (s:List UInt8):=rd (q7 s).2 4
def q9 (s:List UInt8):=rd (q8 s).2 8
structure Full (s:List UInt8):Prop where
 z:(q9 s).1=0
 good:(q9 s).2.2=false
 left:(q9 s).2.1=[]
def idxC (c:Conf):Int:=prt c.2.2.2.2 120
def hom (c:Conf):Int:=1+idxC c+c.2.2.2.2
def siz (c:Conf):Int:=hom c+1+c.2.2.2.1*plc c
theorem idx_range {c:Conf} (h:Rng c):0≤idxC c∧idxC c≤8192:=by
 have:=g0e (x:=c.2.2.2.2) (e:=120) (by omega) (by have:=h.log;omega);have:=h.log;unfold idxC;omega
theorem siz_wrap {c:Conf} (h:OkC c):IntKind.wrap .i64 (IntKind.wrap .i64 (hom c+1)+IntKind.wrap .i64 (c.2.2.2.1*plc c))=siz c∧0≤siz c∧siz c≤2000000000:=by
 have hl:=h.rng.log;have hi:=idx_range h.rng;have hp:=y1j h.rng;have hcap:=h.rng.cap;have h1:0≤c.2.2.2.1*plc c:=Int.mul_nonneg (by omega) (by omega);have h2:c.2.2.2.1*plc c≤65536*plc c:=Int.mul_le_mul_of_nonneg_right (by omega) (by omega);have hh:hom c=1+idxC c+c.2.2.2.2:=rfl;rw[w64 (x:=hom c+1) (by omega) (by omega),w64 (x:=c.2.2.2.1*plc c) (by omega) (by omega),w64 (by omega) (by omega)];have hs:siz c=hom c+1+c.2.2.2.1*plc c:=rfl;omega
def sizR (c:Conf):Int×Int:=if 16777216<siz c then (0,1) else (siz c,0)
end Go.Proofs.YtojobamheigpbaaGreatDoor
namespace Go.Proofs.YtojobamheigpbaaGreatDoor
open Go.Flat Go.Plim
set_option linter.unusedVariables false
set_option linter.unusedSimpArgs false
theorem d1s {l:List Ser} {k:Nat} (h:k<l.length):∃y,l[k]? = some y:=⟨l[k],List.getElem?_eq_getElem h⟩
noncomputable def v1r (s:Sta) (l:List Lab):Int×Int:=if Whole s then (match h0x s l with | some i=>((i:Int),0) | none=>(0,3)) else (0,2)
noncomputable def j1r (s:Sta):Int×Int:=if Whole s then (match o0d s with | some i=>((i:Int),0) | none=>(0,7)) else (0,2)
noncomputable def liveR (s:Sta):List Int:=if Whole s then (l0p s).map Int.ofNat else []
def IsF (s:Sta) (l:List Lab) (k:Nat):Prop:=∃y,s.2.2.2[k]? = some y∧y.1=l∧LvX s y
noncomputable instance (s l k):Decidable (IsF s l k):=Classical.propDecidable _
def IsR (s:Sta) (k:Nat):Prop:=∃y,s.2.2.2[k]? = some y∧¬LvX s y
noncomputable instance (s k):Decidable (IsR s k):=Classical.propDecidable _
theorem v1o {s:Sta} {l:List Lab} {m:Nat} (h:IsF s l m) (hn:∀j,j<m→¬IsF s l j):h0x s l=some m:=by
 obtain ⟨y,h1,h2,h3⟩:=h;exact d0k.2 ⟨y,h1,h2,h3,fun j hj z hz k=>hn j hj ⟨z,hz,k.1,k.2⟩⟩
theorem find_no {s:Sta} {l:List Lab} (hn:∀j,j<s.2.2.2.length→¬IsF s l j):h0x s l=none:=by
 refine f0u.2 fun x hx k => ?_
 obtain ⟨i,hi,e⟩:=List.getElem_of_mem hx;exact hn i hi ⟨x,by rw[List.getElem?_eq_getElem hi,e],k.1,k.2⟩
theorem u1c {s:Sta} {m:Nat} (h:IsR s m) (hn:∀j,j<m→¬IsR s j):o0d s=some m:=by
 obtain ⟨y,h1,h2⟩:=h;exact l0k.2 ⟨y,h1,h2,fun j hj z hz=>Decidable.byContradiction fun k=>hn j hj ⟨z,hz,k⟩⟩
theorem room_no {s:Sta} (hn:∀j,j<s.2.2.2.length→¬IsR s j):o0d s=none:=by
 refine c1y.2 fun x hx=>Decidable.byContradiction fun k => ?_
 obtain ⟨i,hi,e⟩:=List.getElem_of_mem hx;exact hn i hi ⟨x,by rw[List.getElem?_eq_getElem hi,e],k⟩
theorem stt_find (n:Nat) {s:Sta} (hw:StaW s) (l:List Lab):e1u (n+10) s l=some (v1r s l):=by
 rw[n1g,u0u (n+5) s,obs,tfn,tfd];unfold v1r;by_cases h:Whole s
 case neg=>rw[if_neg h,if_neg h,if_neg (show ¬((sta0,(2:Int)).2=0) by decide)]
 rw[if_pos h,if_pos h,if_pos rfl];have his:∀k:Nat,k<s.2.2.2.length→(fun y1:Int×Unit=>e0q (n+9) y1.1 s l s) ((k:Int),())=some (decide (IsF s l k)):=by
  intro k hk;obtain ⟨y,hy⟩:=d1s hk;have hm:=(hw.at hy).2;show e0q (n+9) (k:Int) s l s=_;rw[e1t,i1g hy,obs,d1j (n+6) _ _ hm.l,obs,tfd,p0g (n+1) hy hm,obs];by_cases h1:y.1=l
  ·rw[if_pos h1];refine congrArg some (decide_eq_decide.2 ⟨fun k=>⟨y,hy,h1,k⟩,fun ⟨z,z1,z2,z3⟩ => ?_⟩);rw[hy] at z1;cases z1;exact z3
  ·rw[if_neg h1,decide_eq_false (fun q:IsF s l k=>by obtain ⟨z,z1,z2,z3⟩:=q;rw[hy] at z1;cases z1;exact h1 z2)]
 rcases t0s (n+8) s (fun y1:Int×Unit=>e0q (n+9) y1.1 s l s) (fun k=>decide (IsF s l k)) (by have:=h.len;omega) his with ⟨m,q1,q2,q3,q4⟩ | ⟨q1,q2⟩
 ·rw[show (fun y1:Int×Unit=>e0q (n+9) y1.1 s l (s,(0:Int)).1)=fun y1:Int×Unit=>e0q (n+9) y1.1 s l s from rfl,q4,obs,tfd,if_neg (by omega),v1o (of_decide_eq_true q2) (fun j hj=>of_decide_eq_false (q3 j hj))]
 ·rw[show (fun y1:Int×Unit=>e0q (n+9) y1.1 s l (s,(0:Int)).1)=fun y1:Int×Unit=>e0q (n+9) y1.1 s l s from rfl,q2,obs,tfd,if_pos (by decide),find_no (fun j hj=>of_decide_eq_false (q1 j hj))]
theorem q1l (n:Nat) {s:Sta} (hw:StaW s):s0n (n+10) s=some (j1r s):=by
 rw[n1a,u0u (n+5) s,obs,tfn,tfd];unfold j1r;by_cases h:Whole s
 case neg=>rw[if_neg h,if_neg h,if_neg (show ¬((sta0,(2:Int)).2=0) by decide)]
 rw[if_pos h,if_pos h,if_pos rfl];have his:∀k:Nat,k<s.2.2.2.length→(fun y1:Int×Unit=>e0p (n+9) y1.1 s) ((k:Int),())=some (decide (IsR s k)):=by
  intro k hk;obtain ⟨y,hy⟩:=d1s hk;have hm:=(hw.at hy).2;show e0p (n+9) (k:Int) s=_;rw[e1r,p0g (n+1) hy hm,obs];by_cases h1:LvX s y
  ·rw[decide_eq_true h1,decide_eq_false (fun q:IsR s k=>by obtain ⟨z,z1,z2⟩:=q;rw[hy] at z1;cases z1;exact z2 h1)];rfl
  ·rw[decide_eq_false h1,decide_eq_true (show IsR s k from ⟨y,hy,h1⟩)];rfl
 rcases t0s (n+8) s (fun y1:Int×Unit=>e0p (n+9) y1.1 s) (fun k=>decide (IsR s k)) (by have:=h.len;omega) his with ⟨m,q1,q2,q3,q4⟩ | ⟨q1,q2⟩
 ·rw[show (fun y1:Int×Unit=>e0p (n+9) y1.1 (s,(0:Int)).1)=fun y1:Int×Unit=>e0p (n+9) y1.1 s from rfl,q4,obs,tfd,if_neg (by omega),u1c (of_decide_eq_true q2) (fun j hj=>of_decide_eq_false (q3 j hj))]
 ·rw[show (fun y1:Int×Unit=>e0p (n+9) y1.1 (s,(0:Int)).1)=fun y1:Int×Unit=>e0p (n+9) y1.1 s from rfl,q2,obs,tfd,if_pos (by decide),room_no (fun j hj=>of_decide_eq_false (q1 j hj))]
theorem z1o {s:Sta} {k:Nat} {y:Ser} (h:s.2.2.2[k]? = some y):decide (LvX s y)=lvAt s k:=(k1u h).symm
theorem t1j (n:Nat) {s:Sta} (hw:StaW s) (hL:s.2.2.2.length≤1000000):∀(d k f:Nat) (out:List Int),k+d=s.2.2.2.length→d<f→out.length≤k →
  g0o (n+7) f (s,out,(s.2.2.2.length:Int),(k:Int),())=some (.inl (out++((List.range' k d).filter (lvAt s)).map Int.ofNat,())):=by
 intro d;induction d with
 | zero =>
  intro k f out hk hf ho;obtain ⟨f,rfl⟩:∃g,f=g+1:=⟨f-1,by omega⟩;rw[q0m,decide_eq_false (by omega),tff];simp
 | succ d ih =>
  intro k f out hk hf ho;obtain ⟨f,rfl⟩:∃g,f=g+1:=⟨f-1,by omega⟩;obtain ⟨y,hy⟩:=d1s (l:=s.2.2.2) (k:=k) (by omega);rw[q0m,decide_eq_true (by omega),tft,p0g n hy (hw.at hy).2,obs,z1o hy,w64 (by omega) (by omega),show ((k:Int)+1)=((k+1:Nat):Int) by omega,List.range'_succ];cases h:lvAt s k
  ·rw[tff,ih (k+1) f out (by omega) (by omega) (by omega),List.filter_cons_of_neg (by simp[h])]
  ·rw[tft,decide_eq_true (by omega),tft,ih (k+1) f _ (by omega) (by omega) (by simp;omega),List.filter_cons_of_pos h];simp
theorem q1m (n:Nat) {s:Sta} (hw:StaW s):x0r (n+8) s=some (liveR s):=by
 rw[n1e,u0u (n+3) s,obs,tfn,tfd];unfold liveR;by_cases h:Whole s
 case neg=>rw[if_neg h,if_neg h,if_neg (show ¬((sta0,(2:Int)).2=0) by decide)]
 rw[if_pos h,if_pos h,if_pos rfl];have hL:=h.len;have e:g0o (n+7) a0b (s,([]:List Int),(s.2.2.2.length:Int),(0:Int),())=_:=t1j n hw (by omega) s.2.2.2.length 0 a0b [] (by omega) (by unfold a0b;omega) (by simp);simp only;rw[e,obs,b0j];unfold l0p;rw[List.range_eq_range'];rfl
noncomputable def r1l (s:Sta) (i:Int):Bool:=decide (Whole s∧0≤i∧lvAt s i.toNat=true)
theorem o1r {s:Sta} {k:Nat} (h:lvAt s k=true):k<s.2.2.2.length:=by
 unfold lvAt at h;cases hx:s.2.2.2[k]? with
 | none=>rw[hx] at h;cases h
 | some x=>exact (List.getElem?_eq_some_iff.1 hx).1
theorem x1k (n:Nat) {s:Sta} (hw:StaW s) (i:Int):z0a (n+8) s i=some (r1l s i):=by
 rw[j1g,u0u (n+3) s,obs,tfd,tfd,tfd];unfold r1l;by_cases h:Whole s
 case neg=>rw[if_neg h,if_neg (show ¬((sta0,(2:Int)).2=0) by decide),decide_eq_false (fun k=>h k.1)]
 rw[if_pos h,if_pos rfl];by_cases h1:0≤i
 case neg=>rw[if_neg h1,decide_eq_false (fun k=>h1 k.2.1)]
 rw[if_pos h1];by_cases h2:i<(s.2.2.2.length:Int)
 ·rw[if_pos h2];obtain ⟨y,hy⟩:=d1s (l:=s.2.2.2) (k:=i.toNat) (by omega);have e:=p0g n hy (hw.at hy).2;rw[show ((i.toNat:Nat):Int)=i by omega] at e;simp only;rw[e,obs,z1o hy];cases h3:lvAt s i.toNat
  ·rw[decide_eq_false (by rintro ⟨_,_,k⟩;cases k)]
  ·rw[decide_eq_true ⟨h,h1,rfl⟩]
 ·rw[if_neg h2,decide_eq_false (fun k=>by have:=o1r k.2.2;omega)]
noncomputable def markV (s:Sta):Int:=if Whole s∧o0t s.2.1 then mk s else 0
theorem stt_mark (n:Nat) (s:Sta):e1s (n+5) s=some (markV s):=by
 rw[n1d,u0u n s,obs,tfn,tfd,n1i (n+3),obs,tfn,tfd];unfold markV;by_cases h:Whole s
 case neg=>rw[if_neg h,if_neg (show ¬((sta0,(2:Int)).2=0) by decide),if_neg (fun k=>h k.1)]
 rw[if_pos h,if_pos rfl];by_cases h1:o0t s.2.1
 case neg=>rw[if_neg h1,if_neg (fun k=>h1 k.2)]
 rw[if_pos h1,if_pos ⟨h,h1⟩,x1s (n+3) h1 h.1.rng.w0];rfl
noncomputable def k0x (c:Conf):Sta×Int:=if OkC c then (if (sizR c).2=0 then ((c,(0,(-1,List.replicate c.2.2.2.1.toNat ser0))),0) else (sta0,(sizR c).2)) else (sta0,2)
theorem cap_test {c:Conf} (h:OkC c):((decide ((0:Int)≤c.2.2.2.1))&&((decide (c.2.2.2.1≤c.2.2.2.1))&&(decide ((c.2.2.2.1*(264:Int))≤(140737488355328:Int)))))=true:=by
 have:=h.rng.cap;rw[decide_eq_true (by omega),decide_eq_true (by omega),decide_eq_true (by omega)];rfl
theorem x1r:StaW sta0:=⟨by simp[sta0],by simp[sta0]⟩
theorem ser0_w:SerW ser0:=by
 refine ⟨?_,?_,⟨?_,?_,?_⟩,u0v⟩
 ·unfold I64;simp[ser0]
 ·intro e he;simp[ser0,r0w] at he
 ·intro x hx;simp[ser0] at hx
 ·intro x hx;simp[ser0] at hx
 ·intro x hx;simp[ser0] at hx
theorem newSt_w (c:Conf):StaW (k0x c).1:=by
 unfold k0x;split
 ·rename_i h;split
  ·have:=h.rng.cap;exact ⟨by simp;omega,fun x hx=>by rw[List.eq_of_mem_replicate hx];exact ⟨ser0_w,ser0_m⟩⟩
  ·exact x1r
 ·exact x1r
theorem newSt_ok {c:Conf} (h:(k0x c).2=0):StaOk (k0x c).1∧l0p (k0x c).1=[]:=by
 unfold k0x at h ⊢;by_cases h1:OkC c
 case neg=>rw[if_neg h1] at h;cases h
 rw[if_pos h1] at h ⊢;by_cases h2:(sizR c).2=0
 case neg=>rw[if_neg h2] at h;exact absurd h h2
 rw[if_pos h2];have hcap:=h1.rng.cap;have all:∀(i:Nat) x,(List.replicate c.2.2.2.1.toNat ser0)[i]? = some x→x=ser0:=fun i x hx=>List.eq_of_mem_replicate (List.mem_of_getElem? hx)
 refine ⟨⟨⟨h1,by simp;omega⟩,⟨⟨by simp,by simp⟩,.inl rfl,by simp⟩,fun i x hx => .inl (all i x hx)⟩,?_⟩;unfold l0p;rw[List.filter_eq_nil_iff];intro i hi hl;obtain ⟨y,hy⟩:=d1s (List.mem_range.1 hi);rw[k1u hy] at hl;exact (of_decide_eq_true hl).1 (all i y hy)
theorem e0c {l:List Slo} {a b:Int} (h:a0q l a) (hab:a≤b):a0q l b:=fun s hs hc=>by
 have:=h s hs hc;omega
theorem f1r {l:List Slo} {b i:Int} {x:Cel} (h:a0q l b) (hi:i<b):a0q (tput l i x) b:=by
 intro s hs hc;rcases List.mem_or_eq_of_mem_set hs with k | k
 ·exact h s k hc
 ·rw[k];exact hi
theorem h1g {a b w:Int} (hw:1≤w) (hab:a≤b) (h:a / w≠b / w):a / w<b / w:=by
 have:a / w≤b / w:=Int.ediv_le_ediv (by omega) hab;omega
theorem nb_upw {c:Conf} (hc:OkC c) {s:Trs} {T U:Int} (hTU:T≤U) (h0:a0q s.1 (U / c.2.1.1)) (h1:a0q s.2.1 (T / c.2.1.2.1)) (h2:a0q s.2.2 (T / c.2.1.2.2)) :
  a0q (upw c s (T / c.2.1.1) (U / c.2.1.1)).1 (U / c.2.1.1)∧a0q (upw c s (T / c.2.1.1) (U / c.2.1.1)).2.1 (U / c.2.1.2.1)∧a0q (upw c s (T / c.2.1.1) (U / c.2.1.1)).2.2 (U / c.2.1.2.2):=by
 have hr:=hc.rng;have q1:=(edvm (t:=T) hr.w0.1 hr.w1.1 hc.m1).1;have q1u:=(edvm (t:=U) hr.w0.1 hr.w1.1 hc.m1).1;have q2:=(edvm (t:=T) hr.w0.1 hr.w2.1 hc.m02).1;have q2u:=(edvm (t:=U) hr.w0.1 hr.w2.1 hc.m02).1;have m1:T / c.2.1.2.1≤U / c.2.1.2.1:=Int.ediv_le_ediv (by have:=hr.w1;omega) hTU;have m2:T / c.2.1.2.2≤U / c.2.1.2.2:=Int.ediv_le_ediv (by have:=hr.w2;omega) hTU;have u1:a0q (up1 c s (T / c.2.1.1) (U / c.2.1.1)).1 (U / c.2.1.1)∧a0q (up1 c s (T / c.2.1.1) (U / c.2.1.1)).2.1 (U / c.2.1.2.1)∧a0q (up1 c s (T / c.2.1.1) (U / c.2.1.1)).2.2 (T / c.2.1.2.2):=by
  unfold up1;rw[q1,q1u];split
  ·exact ⟨h0,e0c h1 m1,h2⟩
  ·rename_i hne;split
   ·exact ⟨h0,f1r (e0c h1 m1) (by omega),h2⟩
   ·exact ⟨h0,e0c h1 m1,h2⟩
 unfold upw;generalize up1 c s (T / c.2.1.1) (U / c.2.1.1)=v at u1;unfold up2;rw[q2,q2u];split
 ·exact ⟨u1.1,u1.2.1,e0c u1.2.2 m2⟩
 ·rename_i hne;split
  ·exact ⟨u1.1,u1.2.1,f1r (e0c u1.2.2 m2) (by omega)⟩
  ·exact ⟨u1.1,u1.2.1,e0c u1.2.2 m2⟩
theorem u1j {r:Rw} {room:Int} {e:Ev} (h:RawOk r room) (he:EvOk e) (ha:After r.2.2 e) (hl:¬((r.2.2.length:Int)=room∧r.1=70368744177664)):RawOk (h0w r room e) room∧(h0w r room e).2.2.getLast? = some e:=by
 have hf:Foll (r.2.2++[e]):=by
  refine a0v.2 ⟨h.f,⟨by simp[he],by simp⟩,fun x hx y hy => ?_⟩;simp at hy;subst hy;have hn:r.2.2≠[]:=List.ne_nil_of_mem hx;have hg:=List.getLast?_eq_some_getLast hn;have:=ha _ hg;rcases List.eq_nil_or_concat r.2.2 with k | ⟨p,z,k⟩
  ·exact absurd k hn
  ·rw[List.concat_eq_append] at k;have hz:r.2.2.getLast hn=z:=by simp[k]
   rw[hz] at this;rw[k] at hx;rcases List.mem_append.1 hx with q | q
   ·have hf:=h.f;rw[k] at hf;have:=(a0v.1 hf).2.2 x q z (by simp);omega
   ·simp at q;rw[q];exact this
 unfold h0w;by_cases h1:(r.2.2.length:Int)<room
 ·rw[if_pos h1];refine ⟨⟨h.m0,h.m1,by simp;omega,h.l0,h.l1,hf,h.z,fun k => ?_⟩,by simp⟩;have:=(h.p k).1;omega
 ·rw[if_neg h1];have hlen:=h.len;have hlen':(r.2.2.length:Int)=room:=by omega
  have m0:=h.m0;cases hc:r.2.2 with
  | nil=>rw[hc] at hlen';simp at hlen';omega
  | cons a t =>
   rw[hc] at hf hlen';have hfa:=a2r.1 hf;simp only[List.drop_succ_cons,List.drop_zero,List.headD_cons];refine ⟨⟨h.m0,h.m1,by simp at hlen' ⊢;omega,by have:=h.l0;simp only;omega,?_,hfa.2.2,fun k => ?_,fun _=>⟨by simp at hlen' ⊢;omega,hfa.1.t0,fun x hx => ?_⟩⟩,by simp⟩
   ·have:=h.l1;have:r.1≠70368744177664:=fun k=>hl ⟨by rw[hc];exact hlen',k⟩
    simp only;omega
   ·have:=h.l0;simp only at k;omega
   ·exact hfa.2.1 x (List.mem_of_mem_head? hx)
theorem mrg_fits {a:Cel} {e:Ev} {w i:Int} (h:FitsP a w i) (he:EvOk e) (hlt:a.2.2.1.1<e.1) (hi:e.1 / w=i):FitsP (mrg a (b0r e)) w i:=by
 have hm:=z0z h.n (g0h he);refine ⟨z1i h.n (g0h he) hlt,h.w0,h.w1,?_,?_⟩
 ·rw[hm];exact h.f
 ·rw[hm];exact hi
theorem j0m {c:Conf} {s t:Ser} {e:Ev} (h:SerOk c s) (hp:putE c s e=(t,0)):SerOk c t∧EvOk e∧s.2.1<e.1∧t.2.1=e.1∧t.1=s.1:=by
 have hr:=h.fold.cok.rng;unfold putE at hp;by_cases h1:SerOk c s∧EvOk e
 case neg=>rw[if_neg h1] at hp;cases hp
 rw[if_pos h1] at hp;have he:=h1.2;by_cases h2:e.1≤s.2.1
 ·rw[if_pos h2] at hp;cases hp
 rw[if_neg h2] at hp;by_cases h3:(turned c s (e.1 / c.2.1.1)).2≠0
 ·rw[if_pos h3] at hp;exact absurd (congrArg Prod.snd hp) h3
 rw[if_neg h3] at hp;by_cases h4:(g0d s.2.2.1 c.1 e).2≠0
 ·rw[if_pos h4] at hp;exact absurd (congrArg Prod.snd hp) h4
 rw[if_neg h4] at hp;by_cases h5:(mrgE (turned c s (e.1 / c.2.1.1)).1.2.2 (b0r e)).2≠0
 ·rw[if_pos h5] at hp;exact absurd (congrArg Prod.snd hp) h5
 rw[if_neg h5] at hp;have hp:=(Prod.ext_iff.1 hp).1;simp only at hp;subst hp;refine ⟨?_,he,by omega,rfl,rfl⟩;have h3:(turned c s (e.1 / c.2.1.1)).2=0:=Decidable.byContradiction h3;have h4:(g0d s.2.2.1 c.1 e).2=0:=Decidable.byContradiction h4;have h5:(mrgE (turned c s (e.1 / c.2.1.1)).1.2.2 (b0r e)).2=0:=Decidable.byContradiction h5;have e0:0≤e.1:=he.t0;have hraw:RawOk (g0d s.2.2.1 c.1 e).1 c.1∧(g0d s.2.2.1 c.1 e).1.2.2.getLast? = some e:=by
  unfold g0d at h4 ⊢;rw[if_pos ⟨h.raw,he⟩] at h4 ⊢;by_cases k1:After s.2.2.1.2.2 e
  case neg=>rw[if_neg k1] at h4;cases h4
  rw[if_pos k1] at h4 ⊢;by_cases k2:(s.2.2.1.2.2.length:Int)=c.1∧s.2.2.1.1=70368744177664
  ·rw[if_pos k2] at h4;cases h4
  rw[if_neg k2] at h4 ⊢;exact u1j h.raw he k1 k2
 have key:FoldOk c (turned c s (e.1 / c.2.1.1)).1.1∧a0q (turned c s (e.1 / c.2.1.1)).1.1.1 (e.1 / c.2.1.1)∧a0q (turned c s (e.1 / c.2.1.1)).1.1.2.1 (e.1 / c.2.1.2.1)∧a0q (turned c s (e.1 / c.2.1.1)).1.1.2.2 (e.1 / c.2.1.2.2) ∧
   FitsP (mrgE (turned c s (e.1 / c.2.1.1)).1.2.2 (b0r e)).1 c.2.1.1 (e.1 / c.2.1.1)∧(mrgE (turned c s (e.1 / c.2.1.1)).1.2.2 (b0r e)).1.2.2.1.1=e.1:=by
  have fresh1:FitsP (b0r e) c.2.1.1 (e.1 / c.2.1.1):=⟨g0h he,hr.w0.1,hr.w0.2,rfl,rfl⟩;have z1:mrgE s0.2 (b0r e)=(b0r e,0):=o1o (g0h he).ok;rcases h.st with ⟨l1,hf⟩ | ⟨l1,hd⟩
  ·have ht:turned c s (e.1 / c.2.1.1)=((s.2.2.2.1,s.2.2.2.2),0):=by
    unfold turned;rw[if_neg (fun k:u0e s _=>k.1 hf.opn)]
   rw[ht];simp only;rw[hf.opn,z1];exact ⟨h.fold,e0c hf.b0 (Int.ediv_nonneg e0 (by have:=hr.w0;omega)),e0c hf.b1 (Int.ediv_nonneg e0 (by have:=hr.w1;omega)),e0c hf.b2 (Int.ediv_nonneg e0 (by have:=hr.w2;omega)),fresh1,rfl⟩
  ·have hT:s.2.1≤e.1:=by omega
   have ho:s.2.2.2.2.1=s.2.1 / c.2.1.1:=by rw[←hd.fit.l,hd.ol]
   by_cases hts:u0e s (e.1 / c.2.1.1)
   ·have hlt:s.2.1 / c.2.1.1<e.1 / c.2.1.1:=h1g hr.w0.1 hT (by rw[←ho];exact hts.2);have hcl:i0k c s.2.2.2.1 s.2.2.2.2 (e.1 / c.2.1.1)=(upw c (tput s.2.2.2.1.1 s.2.2.2.2.1 s.2.2.2.2.2,s.2.2.2.1.2) (s.2.1 / c.2.1.1) (e.1 / c.2.1.1),0):=by
     unfold i0k;rw[if_pos h.fold,if_neg hts.1,if_pos hd.fit,if_neg hts.2,if_pos ⟨by omega,l1g he hr.w0.1⟩,ho]
    have ht:turned c s (e.1 / c.2.1.1)=((upw c (tput s.2.2.2.1.1 s.2.2.2.2.1 s.2.2.2.2.2,s.2.2.2.1.2) (s.2.1 / c.2.1.1) (e.1 / c.2.1.1),s0),0):=by
     unfold turned;rw[if_pos hts,hcl,if_pos rfl]
    rw[ht];simp only;rw[z1];obtain ⟨n0,n1,n2⟩:=nb_upw (s:=(tput s.2.2.2.1.1 s.2.2.2.2.1 s.2.2.2.2.2,s.2.2.2.1.2)) h.fold.cok hT (f1r (e0c hd.b0 (by omega)) (by omega)) hd.b1 hd.b2;exact ⟨upw_ok (n0f h.fold hd.fit) _ _,n0,n1,n2,fresh1,rfl⟩
   ·have ht:turned c s (e.1 / c.2.1.1)=((s.2.2.2.1,s.2.2.2.2),0):=by
     unfold turned;rw[if_neg hts]
    have hop:s.2.2.2.2≠s0:=fun k=>by have:=hd.fit.n.n1;rw[k] at this;simp[s0,z0] at this
    have hw:s.2.2.2.2.1=e.1 / c.2.1.1:=Decidable.byContradiction fun k=>hts ⟨hop,k⟩
    rw[ht] at h5 ⊢;simp only at h5 ⊢;obtain ⟨k1,k2,k3,k4,k5⟩:=o1p h5;rw[k4];have hfit:=hd.fit;rw[hw] at hfit;have hm:=z0z hd.fit.n (g0h he);exact ⟨h.fold,e0c hd.b0 (by omega),e0c hd.b1 (Int.ediv_le_ediv (by have:=hr.w1;omega) hT),e0c hd.b2 (Int.ediv_le_ediv (by have:=hr.w2;omega) hT),
     mrg_fits hfit he (by have:=hd.ol;omega) rfl,by rw[hm];rfl⟩
 obtain ⟨k1,k2,k3,k4,k5,k6⟩:=key;exact ⟨k1,h.lab,hraw.1,.inr ⟨by show e.1 ≠ -1;omega,⟨e,hraw.2,rfl⟩,k6,k5,k2,k3,k4⟩⟩
def setS (s:Sta) (i:Nat) (y:Ser):Sta:=(s.1,(s.2.1,(s.2.2.1,s.2.2.2.set i y)))
noncomputable def xOf (s:Sta) (l:List Lab) (w:Int×(Bool×Int)):Ser:=if w.2.1=true then (newV s.1 l).1 else (s.2.2.2[w.1.toNat]?).getD ser0
noncomputable def d0v (s:Sta) (l:List Lab) (e:Ev):Sta×Int :=
 if (d0f s l e).2.2≠0 then (sta0,(d0f s l e).2.2)
 else if (putE s.1 (xOf s l (d0f s l e)) e).2≠0 then (sta0,(putE s.1 (xOf s l (d0f s l e)) e).2)
 else (setS s (d0f s l e).1.toNat (putE s.1 (xOf s l (d0f s l e)) e).1,0)
structure Goes (s:Sta) (l:List Lab) (e:Ev):Prop where
 st:StaOk s
 lab:LabOk l
 ev:EvOk e
 lo:mk s≤e.1
 hi:e.1<mk s+s.1.2.1.1
inductive PlaceAt (s:Sta) (l:List Lab) (e:Ev):Nat→Ser→Bool→Prop
 | found {i:Nat} {x:Ser} (hf:h0x s l=some i) (hx:s.2.2.2[i]? = some x) (hl:x.1=l) (hlv:LvX s x) (ht:x.2.1<e.1):PlaceAt s l e i x false
 | room {i:Nat} (hf:h0x s l=none) (hs:e.2.2.2=false) (hr:o0d s=some i):PlaceAt s l e i (l,(-1,(r0w,(emp s.1,s0)))) true
theorem z1c {c:Conf} {l:List Lab} (h:OkC c) (hl:LabOk l):newV c l=((l,(-1,(r0w,(emp c,s0)))),0):=by
 unfold newV;rw[if_pos h,if_pos hl]
theorem r1t {s:Sta} {l:List Lab} {e:Ev} (h:(d0f s l e).2.2=0):Goes s l e∧∃i x b,PlaceAt s l e i x b∧(d0f s l e).1.toNat=i∧xOf s l (d0f s l e)=x∧d0f s l e=((i:Int),(b,0)):=by
 unfold d0f at h ⊢;by_cases h1:StaOk s
 case neg=>rw[if_pos h1] at h;cases h
 rw[if_neg (fun k=>k h1)] at h ⊢;by_cases h2:LabOk l
 case neg=>rw[if_pos h2] at h;cases h
 rw[if_neg (fun k=>k h2)] at h ⊢;by_cases h3:EvOk e
 case neg=>rw[if_pos h3] at h;cases h
 rw[if_neg (fun k=>k h3)] at h ⊢;by_cases h4:e.1<mk s∨mk s+s.1.2.1.1≤e.1
 ·rw[if_pos h4] at h;cases h
 rw[if_neg h4] at h ⊢;refine ⟨⟨h1,h2,h3,by omega,by omega⟩,?_⟩;cases hf:h0x s l with
 | some i =>
  rw[hf] at h;simp only at h ⊢;obtain ⟨x,hx,k1,k2,k3⟩:=d0k.1 hf;rw[hx] at h ⊢;simp only[Option.getD_some] at h ⊢;by_cases h5:e.1≤x.2.1
  ·rw[if_pos h5] at h;cases h
  rw[if_neg h5];exact ⟨i,x,false,.found hf hx k1 k2 (by omega),rfl,by unfold xOf;simp[hx],rfl⟩
 | none =>
  rw[hf] at h;simp only at h ⊢;cases h5:e.2.2.2 with
  | true=>rw[h5,if_pos rfl] at h;cases h
  | false =>
   rw[h5,if_neg (by simp)] at h;rw[if_neg (by simp)];cases hr:o0d s with
   | none=>rw[hr] at h;cases h
   | some i =>
    simp only;exact ⟨i,_,true,.room hf h5 hr,rfl,by unfold xOf;rw[if_pos rfl,z1c h1.whole.1 h2],rfl⟩
theorem m0u {s:Sta} {l:List Lab} {e:Ev} (h:Goes s l e) {i:Nat} {x:Ser} {b:Bool} (hp:PlaceAt s l e i x b):SerOk s.1 x∧x.1=l∧i<s.2.2.2.length∧x.2.1<e.1:=by
 cases hp with
 | found hf hx hl hlv ht =>
  rcases h.st.right _ _ hx with k | k
  ·exact absurd k hlv.1
  ·exact ⟨k.1,hl,(List.getElem?_eq_some_iff.1 hx).1,ht⟩
 | room hf hs hr =>
  obtain ⟨y,hy,_⟩:=l0k.1 hr;exact ⟨s0z (f1q h.st.whole.1 h.lab),rfl,(List.getElem?_eq_some_iff.1 hy).1,by have:=h.ev.t0;show (-1:Int)<e.1;omega⟩
theorem o0y {s t:Sta} {l:List Lab} {e:Ev} (h:d0v s l e=(t,0)):Goes s l e∧∃i x b y,PlaceAt s l e i x b∧putE s.1 x e=(y,0)∧t=setS s i y∧d0f s l e=((i:Int),(b,0)):=by
 unfold d0v at h;by_cases h1:(d0f s l e).2.2=0
 case neg=>rw[if_pos h1] at h;exact absurd (congrArg Prod.snd h) h1
 rw[if_neg (fun k=>k h1)] at h;obtain ⟨hg,i,x,b,k1,k2,k3,k4⟩:=r1t h1;rw[k2,k3] at h;by_cases h2:(putE s.1 x e).2=0
 case neg=>rw[if_pos h2] at h;exact absurd (congrArg Prod.snd h) h2
 rw[if_neg (fun k=>k h2)] at h;exact ⟨hg,i,x,b,_,k1,Prod.ext rfl h2,(congrArg Prod.fst h).symm,k4⟩
theorem k0b (s:Sta) (i:Nat) (y:Ser) (j:Nat):(setS s i y).2.2.2[j]? = if i=j then (if i<s.2.2.2.length then some y else none) else s.2.2.2[j]? := by
 unfold setS;simp only[List.getElem?_set]
theorem z1d {s:Sta} (h:StaOk s) {y:Ser} (hn:y≠ser0) (h1:mk s≤y.2.1) (h2:y.2.1<35184372088832):LvX s y:=by
 refine ⟨hn,?_⟩;rcases h.clock.2.1 with k | k
 ·exact .inl k
 ·refine .inr ?_;have hr:=h.whole.1.rng;have hc:=h.clock.2.2;obtain ⟨m1,m2,m3,m4⟩:=t0j h.clock.1 hr.w0;have e1:s.2.2.1 / s.1.2.1.1≤y.2.1 / s.1.2.1.1:=by
   have a1:s.2.1 / s.1.2.1.1≤y.2.1 / s.1.2.1.1:=by
    rw[Int.le_ediv_iff_mul_le (by omega)];exact h1
   have a2:s.2.2.1 / s.1.2.1.1≤s.2.1 / s.1.2.1.1:=Int.ediv_le_ediv (by omega) hc;omega
  unfold l0a;have g:o0o y.2.1 s.2.2.1 s.1.2.1.1 s.1.2.2.1.1=false:=by
   unfold o0o oldV;have n0:=hr.n0;have:=Int.ediv_nonneg k.1 (show 0≤s.1.2.1.1 by omega);rw[if_pos ⟨⟨k.1,k.2,hr.w0.1,hr.w0.2⟩,n0.1,n0.2⟩];refine decide_eq_false fun q => ?_
   have q:=q.2.2;simp only at q;split at q<;>omega
  rw[g];simp
theorem z0b {s t:Sta} {l:List Lab} {e:Ev} (h:d0v s l e=(t,0)):StaOk t:=by
 obtain ⟨hg,i,x,b,y,hp,hput,rfl,_⟩:=o0y h;obtain ⟨p1,p2,p3,p4⟩:=m0u hg hp;obtain ⟨q1,q2,q3,q4,q5⟩:=j0m p1 hput;have hst:=hg.st;refine ⟨⟨hst.whole.1,by simpa [setS] using hst.whole.2⟩,hst.clock,fun j z hz => ?_⟩;rw[k0b] at hz;by_cases hij:i=j
 ·subst hij;rw[if_pos rfl,if_pos p3] at hz;cases hz;refine .inr ⟨q1,by rw[q4];exact hg.ev.t0,by rw[q4];exact hg.hi,?_⟩;rintro ⟨_,k,hk,w,hw,hlw,hwl⟩;rw[k0b,if_neg (by omega)] at hw;rw[q5,p2] at hwl;cases hp with
  | found hf hx hl hlv ht =>
   obtain ⟨_,_,_,_,first⟩:=d0k.1 hf;exact first k hk w hw ⟨hwl,hlw⟩
  | room hf hs hr=>exact f0u.1 hf w (List.mem_of_getElem? hw) ⟨hwl,hlw⟩
 ·rw[if_neg hij] at hz;rcases hst.right j z hz with k | ⟨k1,k2,k3,k4⟩
  ·exact .inl k
  ·refine .inr ⟨k1,k2,k3,?_⟩;rintro ⟨hlz,k,hk,w,hw,hlw,hwl⟩;rw[k0b] at hw;by_cases hik:i=k
   ·subst hik;rw[if_pos rfl,if_pos p3] at hw;cases hw;rw[q5,p2] at hwl;cases hp with
    | found hf hx hl hlv ht=>exact k4 ⟨hlz,i,hk,x,hx,hlv,hl.trans hwl⟩
    | room hf hs hr=>exact f0u.1 hf z (List.mem_of_getElem? hz) ⟨hwl.symm,hlz⟩
   ·rw[if_neg hik] at hw;exact k4 ⟨hlz,k,hk,w,hw,hlw,hwl⟩
noncomputable def u1n (s:Sta):Int×Int:=if StaOk s then (mk s,if 35184372088832<mk s+s.1.2.1.1 then 35184372088832 else mk s+s.1.2.1.1) else (0,0)
theorem markV_ok {s:Sta} (h:StaOk s):markV s=mk s∧IntKind.wrap .i64 (mk s+s.1.2.1.1)=mk s+s.1.2.1.1:=by
 have hr:=h.whole.1.rng.w0;have ht:=h.clock.1.2;obtain ⟨m1,m2,m3,m4⟩:=t0j h.clock.1 hr;exact ⟨if_pos ⟨h.whole,h.clock.1⟩,w64 (by omega) (by omega)⟩
theorem u1a (n:Nat) {s:Sta} (hw:StaW s):v0b (n+15) s=some (u1n s):=by
 rw[f1f,h0g n hw,obs,tfn,tfd,stt_mark (n+9) s];unfold u1n;by_cases h:StaOk s
 case neg=>rw[if_neg h,if_neg h,if_neg (show ¬((2:Int)=0) by decide)]
 obtain ⟨e1,e2⟩:=markV_ok h;rw[if_pos h,if_pos h,if_pos rfl,obs,e1,e2]
theorem r1c {s:Sta} {e:Ev} (h:StaOk s) (he:EvOk e):(e.1<(u1n s).1∨(u1n s).2≤e.1)↔(e.1<mk s∨mk s+s.1.2.1.1≤e.1):=by
 have:=he.t1;unfold u1n;rw[if_pos h];simp only;split<;>omega
theorem v1p {s:Sta} (h:Whole s) {l:List Lab} {i:Nat} (hf:h0x s l=some i):v1r s l=((i:Int),0):=by
 unfold v1r;rw[if_pos h,hf]
theorem v1q {s:Sta} (h:Whole s) {l:List Lab} (hf:h0x s l=none):v1r s l=(0,3):=by
 unfold v1r;rw[if_pos h,hf]
theorem u1d {s:Sta} (h:Whole s) {i:Nat} (hf:o0d s=some i):j1r s=((i:Int),0):=by
 unfold j1r;rw[if_pos h,hf]
theorem u1e {s:Sta} (h:Whole s) (hf:o0d s=none):j1r s=(0,7):=by
 unfold j1r;rw[if_pos h,hf]
theorem m1l {s:Sta} {l:List Lab} {e:Ev} (h:StaOk s) (h1:LabOk l) (h2:EvOk e) (h3:¬(e.1<mk s∨mk s+s.1.2.1.1≤e.1)) :
  d0f s l e=match h0x s l with
   | some i=>if e.1≤((s.2.2.2[i]?).getD ser0).2.1 then (0,(false,9)) else ((i:Int),(false,0))
   | none=>if e.2.2.2=true then (0,(false,3)) else match o0d s with | some i=>((i:Int),(true,0)) | none=>(0,(false,7)):=by
 unfold d0f;rw[if_neg (fun k=>k h),if_neg (fun k=>k h1),if_neg (fun k=>k h2),if_neg h3]
 all_goals (cases h0x s l<;>first | rfl | (cases o0d s<;>rfl))
theorem n1v (n:Nat) {s:Sta} (hw:StaW s) (l:List Lab) {e:Ev} (he:EvW e):r0i (n+16) s l e=some (d0f s l e):=by
 rw[b1p,h0g (n+1) hw,obs,tfn,tfd,j0q _ l,e0k _ he,u1a n hw,stt_find (n+5) hw l,q1l (n+5) hw];by_cases h:StaOk s
 case neg =>
  rw[if_neg h,if_neg (show ¬((2:Int)=0) by decide)];unfold d0f;rw[if_pos h]
 rw[if_pos h,if_pos rfl,obs,tfn,tfd];by_cases h1:LabOk l
 case neg =>
  rw[if_neg h1,if_neg (show ¬((8:Int)=0) by decide)];unfold d0f;rw[if_neg (fun k=>k h),if_pos h1]
 rw[if_pos h1,if_pos rfl,obs,tfn,tfd];by_cases h2:EvOk e
 case neg =>
  rw[if_neg h2,if_neg (show ¬((2:Int)=0) by decide)];unfold d0f;rw[if_neg (fun k=>k h),if_neg (fun k=>k h1),if_pos h2]
 rw[if_pos h2,if_pos rfl,obs,obs,tfd,tfd];by_cases h3:e.1<mk s∨mk s+s.1.2.1.1≤e.1
 ·have ht:d0f s l e=(0,(false,9)):=by
   unfold d0f;rw[if_neg (fun k=>k h),if_neg (fun k=>k h1),if_neg (fun k=>k h2),if_pos h3]
  rw[ht];rcases (r1c h h2).2 h3 with q | q
  ·rw[if_pos q]
  ·by_cases q':e.1<(u1n s).1
   ·rw[if_pos q']
   ·rw[if_neg q',if_pos q]
 have h3':=mt (r1c h h2).1 h3;rw[if_neg (fun k=>h3' (.inl k)),if_neg (fun k=>h3' (.inr k)),m1l h h1 h2 h3,tfd];cases hf:h0x s l with
 | some i =>
  obtain ⟨x,hx,_⟩:=d0k.1 hf;rw[v1p h.whole hf,if_pos rfl,i1g hx,obs,tfd];simp only[hx,Option.getD_some];by_cases h4:e.1≤x.2.1
  ·rw[if_pos h4,if_pos h4]
  ·rw[if_neg h4,if_neg h4];rfl
 | none =>
  rw[v1q h.whole hf,if_neg (show ¬((3:Int)=0) by decide),show (decide (((0:Int),(3:Int)).2=0))=false from rfl,tff];cases hs:e.2.2.2 with
  | true=>rw[tft];simp
  | false =>
   rw[tff,obs];simp only[Bool.false_eq_true,if_false];cases hr:o0d s with
   | some i=>rw[u1d h.whole hr];rfl
   | none=>rw[u1e h.whole hr];rfl
theorem w1r {s:Sta} {l:List Lab} {e:Ev} (h:(d0f s l e).2.2≠0):d0v s l e=(sta0,(d0f s l e).2.2):=by
 unfold d0v;rw[if_pos h]
theorem b2x (n:Nat) (s:List Ser) (h:s.length≤1000000):j0i (n+1) s=some s:=by
 rw[s0x,decide_eq_true (show (0+s.length)*264≤140737488355328 by omega)];simp only[tft,List.nil_append];by_cases h0:s.length=0
 ·rw[decide_eq_true h0,tft,List.length_eq_zero_iff.1 h0,m1a]
 ·rw[decide_eq_false h0,tff]
theorem place_w {s:Sta} (hw:StaW s) {l:List Lab} {e:Ev} (hg:Goes s l e) {i:Nat} {x:Ser} {b:Bool} (hp:PlaceAt s l e i x b):SerW x:=by
 cases hp with
 | found hf hx hl hlv ht=>exact (hw.at hx).1
 | room hf hs hr=>exact serInv_w (f1q hg.st.whole.1 hg.lab)
theorem w1o {s:Sta} {l:List Lab} {e:Ev} {i:Nat} {x:Ser} {b:Bool} (hp:(d0f s l e).1.toNat=i) (hx:xOf s l (d0f s l e)=x) (h:(d0f s l e).2.2=0) :
  d0v s l e=if (putE s.1 x e).2=0 then (setS s i (putE s.1 x e).1,0) else (sta0,(putE s.1 x e).2):=by
 unfold d0v;rw[if_neg (fun k=>k h),hp,hx];by_cases h1:(putE s.1 x e).2=0
 ·rw[if_neg (fun k=>k h1),if_pos h1]
 ·rw[if_pos h1,if_neg h1]
theorem set_tail {s:Sta} {i:Nat} (hi:i<s.2.2.2.length) (y:Ser) :
  (a0a (at? s.2.2.2 (i:Int)) fun r4=>a0a ((s.2.2.2)[(Int.toNat (i:Int))]?) fun r5=>some ((s.1,(s.2.1,(s.2.2.1,(List.set s.2.2.2 (Int.toNat (i:Int)) y)))),(0:Int)))=some (setS s i y,0):=by
 obtain ⟨z,hz⟩:=d1s hi;rw[i1g hz,obs,Int.toNat_natCast,hz,obs];rfl
theorem w1p (n:Nat) {s:Sta} (hw:StaW s) (l:List Lab) {e:Ev} (he:EvW e):y0j (n+24) s l e=some (d0v s l e):=by
 rw[i1k,n1v (n+7) hw l he,obs,tfn,tfd];by_cases h:(d0f s l e).2.2=0
 case neg=>rw[if_neg h,w1r h];rfl
 obtain ⟨hg,i,x,b,hp,k1,k2,hv⟩:=r1t h;obtain ⟨p1,p2,p3,p4⟩:=m0u hg hp;rw[if_pos h,w1o (b:=b) k1 k2 h,hv,b1f];have hx:(tif b (a0a (p0n (n+22) s.1 l) fun r0=>some r0) (a0a (at? s.2.2.2 (i:Int)) fun r1=>some (r1,(0:Int))))=some (x,0):=by
  cases hp with
  | found hf hx hl hlv ht=>rw[tff,i1g hx,obs]
  | room hf hs hr=>rw[tft,t1w (n+15),z1c hg.st.whole.1 hg.lab,obs]
 simp only;rw[hx,obs,tfn,tfd,if_pos rfl];simp only;rw[t1v n s.1 (place_w hw hg hp) he,obs,tfn,tfd];by_cases h1:(putE s.1 x e).2=0
 case neg=>rw[if_neg h1,if_neg h1];rfl
 rw[if_pos h1,if_pos h1,b2x (n+22) _ (by have:=hg.st.whole.len;omega),obs,set_tail p3]
def Moves (s:Sta) (now:Int):Prop:=StaOk s∧s.2.1<now∧now<35184372088832
noncomputable instance (s now):Decidable (Moves s now):=Classical.propDecidable _
def t1f (s:Sta) (now:Int):Sta:=(s.1,(now,s.2.2))
noncomputable def u0l (s:Sta) (now:Int):Sta×Bool:=if Moves s now then (t1f s now,true) else (s,false)
theorem csc_tick (n:Nat) {s:Sta} (hw:StaW s) (now:Int):h1h (n+15) s now=some (u0l s now):=by
 rw[p1n,h0g n hw];unfold u0l;simp only[tfd,tfn,obs];by_cases h:Moves s now
 ·rw[if_neg (by have:=h.2.1;omega),if_neg (by have:=h.2.2;omega),if_pos h.1,if_pos rfl,if_pos h];rfl
 ·rw[if_neg h];by_cases h1:now≤s.2.1
  ·rw[if_pos h1]
  rw[if_neg h1];by_cases h2:35184372088832≤now
  ·rw[if_pos h2]
  rw[if_neg h2,if_neg (fun k:StaOk s=>h ⟨k,by omega,by omega⟩)];rfl
theorem x1g {s:Sta} (hw:StaW s) (now:Int):StaW (t1f s now):=⟨hw.len,hw.ser⟩
theorem x1f {s:Sta} {now:Int} (h:Moves s now):StaOk (t1f s now):=by
 obtain ⟨h,h1,h2⟩:=h;have t0:=h.clock.1.1;have hr:=h.whole.1.rng.w0;refine ⟨h.whole,⟨⟨by show 0≤now;omega,h2⟩,h.clock.2.1,by have:=h.clock.2.2;show s.2.2.1≤now;omega⟩,fun i x hx => ?_⟩;rcases h.right i x hx with k | ⟨k1,k2,k3,k4⟩
 ·exact .inl k
 ·refine .inr ⟨k1,k2,?_,k4⟩;have:mk s≤mk (t1f s now):=Int.mul_le_mul_of_nonneg_right (Int.ediv_le_ediv (by omega) (by show s.2.1≤now;omega)) (by omega);show x.2.1<mk (t1f s now)+s.1.2.1.1;omega
theorem x0x {now w m:Int} (h:OfP now w) (hm:1≤m∧m≤4096):(oldV now w m).2=0:=by
 unfold oldV;rw[if_pos ⟨h,hm.1,hm.2⟩]
def b1e (o:Int) (r:Int×Int) (s:Slo):Prop:=¬(s.1<o∧(s.1<r.1∨r.2≤s.1))
instance (o r s):Decidable (b1e o r s):=by unfold b1e;infer_instance
def j0s (o:Int) (r:Int×Int) (l:List Slo):List Slo:=l.map fun s=>if b1e o r s then s else s0
theorem f0k (o r) (l:List Slo):(j0s o r l).length=l.length:=by simp[j0s]
theorem g1q {o r} {l:List Slo} {w:Int} (h:TierOk l w):TierOk (j0s o r l) w:=by
 refine ⟨by rw[f0k];exact h.l0,by rw[f0k];exact h.l1,h.w0,h.w1,fun j s hs => ?_⟩;rw[f0k];unfold j0s at hs;rw[List.getElem?_map] at hs;cases ha:l[j]? with
 | none=>rw[ha] at hs;cases hs
 | some a =>
  rw[ha] at hs;simp only[Option.map_some,Option.some.injEq] at hs;split at hs
  ·rw[←hs];exact h.s j a ha
  ·exact .inl hs.symm
theorem p0t {o r} {l:List Slo} {a:Int} (h:a0q l a):a0q (j0s o r l) a:=by
 intro s hs hc;unfold j0s at hs;obtain ⟨x,hx,e⟩:=List.mem_map.1 hs;split at e
 ·rw[←e] at hc ⊢;exact h x hx hc
 ·rw[←e] at hc;exact absurd hc (by decide)
def k0y (c:Conf) (last:Int):Int×Int:=(last / c.2.1.2.1*(c.2.1.2.1 / c.2.1.1),last / c.2.1.2.1*(c.2.1.2.1 / c.2.1.1)+c.2.1.2.1 / c.2.1.1)
def l0o (c:Conf) (last:Int):Int×Int:=(last / c.2.1.2.2*(c.2.1.2.2 / c.2.1.2.1),last / c.2.1.2.2*(c.2.1.2.2 / c.2.1.2.1)+c.2.1.2.2 / c.2.1.2.1)
noncomputable def g0n (c:Conf) (now:Int) (x:Ser):Ser :=
 (x.1,(x.2.1,(x.2.2.1,((j0s (oldV now c.2.1.1 c.2.2.1.1).1 (k0y c x.2.1) x.2.2.2.1.1,(j0s (oldV now c.2.1.2.1 c.2.2.1.2.1).1 (l0o c x.2.1) x.2.2.2.1.2.1,j0s (oldV now c.2.1.2.2 c.2.2.1.2.2).1 (0,0) x.2.2.2.1.2.2)),x.2.2.2.2))))
theorem p1p {c:Conf} {now:Int} {x:Ser} (h:FoldOk c x.2.2.2.1):FoldOk c (g0n c now x).2.2.2.1 :=
 ⟨h.cok,by simpa [g0n,f0k] using h.n0,by simpa [g0n,f0k] using h.n1,by simpa [g0n,f0k] using h.n2,g1q h.t0,g1q h.t1,g1q h.t2⟩
theorem c2a {c:Conf} {now:Int} {x:Ser} (h:SerOk c x):SerOk c (g0n c now x):=by
 refine ⟨p1p h.fold,h.lab,h.raw,?_⟩;rcases h.st with ⟨k1,k2⟩ | ⟨k1,k2⟩
 ·exact .inl ⟨k1,k2.raw,k2.opn,p0t k2.b0,p0t k2.b1,p0t k2.b2⟩
 ·exact .inr ⟨k1,k2.last,k2.ol,k2.fit,p0t k2.b0,p0t k2.b1,p0t k2.b2⟩
structure Ends3 (c:Conf) (s:Ser):Prop where
 t0:s.2.1 = -1∨a0q s.2.2.2.1.1 (s.2.1 / c.2.1.1)∧CellN s.2.2.2.2.2∧s.2.2.2.2.2.2.1.1 / c.2.1.1=s.2.1 / c.2.1.1
 t1:s.2.1 = -1∨∃m,now1 c s=(m,0)∧a0q s.2.2.2.1.2.1 (s.2.1 / c.2.1.2.1)∧CellN m∧m.2.1.1 / c.2.1.2.1=s.2.1 / c.2.1.2.1
 t2:s.2.1 = -1∨∃m,now2 c s=(m,0)∧a0q s.2.2.2.1.2.2 (s.2.1 / c.2.1.2.2)∧CellN m∧m.2.1.1 / c.2.1.2.2=s.2.1 / c.2.1.2.2
theorem nb_all {c:Conf} {s:Ser} (h:SerOk c s):a0q s.2.2.2.1.1 (s.2.1 / c.2.1.1+1)∧a0q s.2.2.2.1.2.1 (s.2.1 / c.2.1.2.1+1)∧a0q s.2.2.2.1.2.2 (s.2.1 / c.2.1.2.2+1):=by
 have hr:=h.fold.cok.rng;rcases h.st with ⟨k1,k2⟩ | ⟨k1,k2⟩
 ·rw[k1];have e:∀w:Int,1≤w→(-1:Int) / w = -1:=fun w hw=>Int.ediv_eq_iff_of_pos (by omega) |>.2 ⟨by omega,by omega⟩
  rw[e _ hr.w0.1,e _ hr.w1.1,e _ hr.w2.1];exact ⟨k2.b0,k2.b1,k2.b2⟩
 ·exact ⟨e0c k2.b0 (by omega),e0c k2.b1 (by omega),e0c k2.b2 (by omega)⟩
noncomputable def p1i (s:Sta) (i:Nat):Bool:=match s.2.2.2[i]? with | some x=>l0a s.1 x.2.1 s.2.1 | none=>false
noncomputable def dueV (s:Sta):List Nat:=if StaOk s then (l0p s).filter (p1i s) else []
def w0e (s:Sta):Sta:=(s.1,(s.2.1,(s.2.1,s.2.2.2)))
noncomputable def j0v (s:Sta) (x:Ser):Ser:=if LvX s x then g0n s.1 s.2.1 x else ser0
noncomputable def w0u (s:Sta):Sta:=(s.1,(s.2.1,(s.2.2.1,s.2.2.2.map (j0v s))))
theorem q1j {s:Sta} {x:Ser} (h:StaOk s):LvX (w0e s) x↔x≠ser0∧l0a s.1 x.2.1 s.2.1=false:=by
 have:=h.clock.1.1;constructor
 ·rintro ⟨h1,h2 | h2⟩
  ·exfalso;have h2:s.2.1 = -1:=h2;omega
  ·exact ⟨h1,h2⟩
 ·rintro ⟨h1,h2⟩;exact ⟨h1,.inr h2⟩
theorem x0y {a b w m:Int} (ha:OfP a w) (hb:OfP b w) (hab:a≤b) (hm:1≤m∧m≤4096):(oldV a w m).1≤(oldV b w m).1:=by
 unfold oldV;rw[if_pos (show OfP a w∧1≤m∧m≤4096 from ⟨ha,hm.1,hm.2⟩),if_pos (show OfP b w∧1≤m∧m≤4096 from ⟨hb,hm.1,hm.2⟩)];have:a / w≤b / w:=Int.ediv_le_ediv (by have:=ha.2.2.1;omega) hab;simp only;split<;>split<;>omega
theorem a1f {t a b w m:Int} (ha:OfP a w) (hb:OfP b w) (hab:a≤b) (hm:1≤m∧m≤4096) (h:o0o t a w m=true):o0o t b w m=true:=by
 unfold o0o at *
 have h:=of_decide_eq_true h;have:=x0y ha hb hab hm;exact decide_eq_true ⟨h.1,x0x hb hm,by omega⟩
theorem l1l {c:Conf} {t a b:Int} (ha:o0t a) (hb:o0t b) (hab:a≤b) (h:l0a c t a=true):l0a c t b=true:=by
 unfold l0a at *
 simp only[Bool.and_eq_true,decide_eq_true_eq] at h ⊢;obtain ⟨hc,h0,h1,h2⟩:=h;have hr:=hc.rng;exact ⟨hc,a1f ⟨ha.1,ha.2,hr.w0.1,hr.w0.2⟩ ⟨hb.1,hb.2,hr.w0.1,hr.w0.2⟩ hab hr.n0 h0,a1f ⟨ha.1,ha.2,hr.w1.1,hr.w1.2⟩ ⟨hb.1,hb.2,hr.w1.1,hr.w1.2⟩ hab hr.n1 h1,a1f ⟨ha.1,ha.2,hr.w2.1,hr.w2.2⟩ ⟨hb.1,hb.2,hr.w2.1,hr.w2.2⟩ hab hr.n2 h2⟩
theorem e1p {s:Sta} (h:StaOk s) {x:Ser} (hl:LvX (w0e s) x):LvX s x:=by
 obtain ⟨h1,h2⟩:=(q1j h).1 hl;refine ⟨h1,?_⟩;rcases h.clock.2.1 with k | k
 ·exact .inl k
 ·refine .inr ?_;cases hd:l0a s.1 x.2.1 s.2.2.1 with
  | false=>rfl
  | true=>rw[l1l k h.clock.1 h.clock.2.2 hd] at h2;cases h2
theorem q1i {s:Sta} (h:StaOk s):StaOk (w0e s):=by
 refine ⟨h.whole,⟨h.clock.1,.inr h.clock.1,Int.le_refl _⟩,fun i x hx => ?_⟩;rcases h.right i x hx with k | ⟨k1,k2,k3,k4⟩
 ·exact .inl k
 ·refine .inr ⟨k1,k2,k3,?_⟩;rintro ⟨q1,j,q2,y,q3,q4,q5⟩;exact k4 ⟨e1p h q1,j,q2,y,q3,e1p h q4,q5⟩
theorem c2b {c:Conf} {now:Int} {x:Ser} (h:SerOk c x):g0n c now x≠ser0:=by
 intro k;have:=h.lab.n0;have e:x.1=[]:=congrArg Prod.fst k;rw[e] at this;simp at this
theorem f1w {s:Sta} (h:StaOk s) {x:Ser} (hx:x∈s.2.2.2) (hl:LvX s x):SerOk s.1 x∧0≤x.2.1:=by
 obtain ⟨i,hi,e⟩:=List.getElem_of_mem hx;rcases h.right i x (by rw[List.getElem?_eq_getElem hi,e]) with k | k
 ·exact absurd k hl.1
 ·exact ⟨k.1,k.2.1⟩
theorem l1o {s:Sta} (h:StaOk s) {x:Ser} (hx:x∈s.2.2.2):LvX s (j0v s x)↔LvX s x:=by
 unfold j0v;by_cases hl:LvX s x
 ·rw[if_pos hl];exact ⟨fun _=>hl,fun _=>⟨c2b (f1w h hx hl).1,hl.2⟩⟩
 ·rw[if_neg hl];exact ⟨fun k=>absurd rfl k.1,fun k=>absurd k hl⟩
theorem s1g {s:Sta} (h:StaOk s):StaOk (w0u s):=by
 refine ⟨⟨h.whole.1,by simpa [w0u] using h.whole.2⟩,h.clock,fun i x hx => ?_⟩;have hx:(s.2.2.2.map (j0v s))[i]? = some x:=hx;rw[List.getElem?_map] at hx;cases hy:s.2.2.2[i]? with
 | none=>rw[hy] at hx;cases hx
 | some y =>
  rw[hy] at hx;simp only[Option.map_some,Option.some.injEq] at hx;by_cases hl:LvX s y
  ·have e:j0v s y=g0n s.1 s.2.1 y:=if_pos hl;rw[e] at hx;have hym:=List.mem_of_getElem? hy;rcases h.right i y hy with k | ⟨k1,k2,k3,k4⟩
   ·exact absurd k hl.1
   subst hx;refine .inr ⟨c2a k1,k2,k3,?_⟩;rintro ⟨q1,j,q2,z,q3,q4,q5⟩;have q3:(s.2.2.2.map (j0v s))[j]? = some z:=q3;rw[List.getElem?_map] at q3;cases hw:s.2.2.2[j]? with
   | none=>rw[hw] at q3;cases q3
   | some w =>
    rw[hw] at q3;simp only[Option.map_some,Option.some.injEq] at q3;have hwm:=List.mem_of_getElem? hw;have q4:LvX s z:=q4;rw[←q3] at q4 q5;have hlw:=(l1o h hwm).1 q4;have e2:j0v s w=g0n s.1 s.2.1 w:=if_pos hlw;rw[e2] at q5;exact k4 ⟨hl,j,q2,w,hw,hlw,q5⟩
  ·have e:j0v s y=ser0:=if_neg hl;rw[e] at hx;exact .inl hx.symm
theorem f1t {s:Sta} {i:Nat}:lvAt s i=true↔∃x,s.2.2.2[i]? = some x∧LvX s x:=by
 unfold lvAt;cases s.2.2.2[i]? with
 | none=>simp
 | some x=>simp
end Go.Proofs.YtojobamheigpbaaGreatDoor

namespace Go.Plim
set_option linter.unusedVariables false
def tz:Nat→Nat→Nat
 | 0,_=>0
 | k+1,x=>if x % 2=1 then 0 else tz k (x / 2)+1
def bl:Nat→Nat→Nat
 | 0,_=>0
 | k+1,x=>if x=0 then 0 else bl k (x / 2)+1
end Go.Plim

namespace Go.Plim
set_option linter.unusedVariables false
def ofN (x:Nat):Wd:=(((x / 18446744073709551616:Nat):Int),((x % 18446744073709551616:Nat):Int))
end Go.Plim

namespace Go.Plim
set_option linter.unusedVariables false
end Go.Plim

namespace Go.Proofs.YtojobamheigpbaaGreatDoor
open Go.Flat Go.Plim
set_option linter.unusedVariables false
set_option linter.unusedSimpArgs false
end Go.Proofs.YtojobamheigpbaaGreatDoor
namespace Go.Proofs.YtojobamheigpbaaGreatDoor
open Go.Flat Go.Plim
set_option linter.unusedVariables false
end Go.Proofs.YtojobamheigpbaaGreatDoor
namespace Go.Proofs.YtojobamheigpbaaGreatDoor
open Go.Flat Go.Plim
set_option linter.unusedVariables false
set_option linter.unusedSimpArgs false
section
variable {del:Ev×Unit→Option Bool} {p:Ev→Bool} {L:List Ev} (hd:∀x∈L,del (x,())=some (p x))
include hd
end
theorem found {s:Sta} (hs:StaOk s) {l:List Lab} {i:Nat} (h:h0x s l=some i):∃x,s.2.2.2[i]? = some x∧x.1=l∧LvX s x∧SerOk s.1 x:=by
 obtain ⟨x,hx,h1,h2,_⟩:=d0k.1 h;exact ⟨x,hx,h1,h2,(f1w hs (List.mem_of_getElem? hx) h2).1⟩
theorem a2h (n:Nat) {c:Conf} (h:OkC c):v0t (n+4) c=some (idxC c):=by
 have hl:=h.rng.log;rw[h1q,u0a n h];simp only[obs,tfd,tfn];rw[if_pos trivial,o0g (n+2) _ 120 (by omega) (by omega) (by omega) (by omega)];rfl
theorem home_own (n:Nat) {c:Conf} (h:OkC c):a1p (n+5) c=some (hom c):=by
 have hl:=h.rng.log;have hi:=idx_range h.rng;rw[l1m,u0a (n+1) h,a2h n h];simp only[obs,tfd,tfn];rw[if_pos trivial,w64 (x:=1+idxC c) (by omega) (by omega),w64 (by omega) (by omega)];rfl
theorem y1n (n:Nat) {c:Conf} (h:OkC c):v0s (n+4) c=some (plc c):=by
 rw[h1p,u0a n h,z0n (n+1) h.rng];simp only[obs,tfd,tfn];rw[if_pos trivial]
theorem size_own (n:Nat) {c:Conf} (h:OkC c):t0x (n+6) c=some (sizR c):=by
 obtain ⟨e,_⟩:=siz_wrap h;rw[w0t,u0a (n+2) h,home_own n h,y1n (n+1) h];simp only[obs,tfd,tfn,e];rw[if_pos trivial];unfold sizR;by_cases hs:16777216<siz c
 ·rw[if_pos hs,if_pos hs]
 ·rw[if_neg hs,if_neg hs]
theorem n1o (n:Nat) {c:Conf} (h:¬OkC c):t0x (n+6) c=some (0,2):=by
 rw[w0t,s1k (n+2) h];simp only[obs,tfd,tfn];rw[if_neg (by decide)]
theorem y0z (n:Nat) (c:Conf):u0t (n+7) c=some (k0x c):=by
 rw[t1g];unfold k0x;by_cases h:OkC c
 case neg=>rw[n1o n h,if_neg h];rfl
 rw[size_own n h,if_pos h,obs,tfn,tfd];by_cases h1:(sizR c).2=0
 ·rw[if_pos h1,if_pos h1,cap_test h];rfl
 ·rw[if_neg h1,if_neg h1];rfl
theorem serW_put {c:Conf} {s t:Ser} {e:Ev} (h:SerOk c s) (hp:putE c s e=(t,0)):SerW t∧SerM t:=by
 obtain ⟨q1,q2,q3,q4,q5⟩:=j0m h hp;have hc:=q1.fold.cok.rng;refine ⟨⟨?_,fun x hx=>EvW.of (q1.raw.f.ok x hx),q1.fold.w,?_⟩,?_⟩
 ·have:=q2.t0;have:=q2.t1;rw[q4];unfold I64;omega
 ·rcases q1.st with ⟨_,k⟩ | ⟨_,k⟩
  ·rw[k.opn];exact u0v
  ·have:=k.fit.i0;exact ⟨by unfold I64;omega,.of k.fit.n.ok⟩
 ·have l1:=q1.lab.n1;have l2:=q1.raw.len;have l3:=q1.raw.m1;have:=q1.fold.lens;exact ⟨by omega,by omega,by omega,by omega,by omega⟩
theorem write_w {s t:Sta} (hw:StaW s) {l:List Lab} {e:Ev} {v:Int} (h:d0v s l e=(t,v)):StaW t:=by
 by_cases hv:v=0
 ·subst hv;obtain ⟨hg,i,x,b,y,hp,hput,rfl,_⟩:=o0y h;obtain ⟨p1,p2,p3,p4⟩:=m0u hg hp;have hy:=serW_put p1 hput;refine ⟨by simpa [setS] using hw.len,fun z hz => ?_⟩;rcases List.mem_or_eq_of_mem_set hz with k | k
  ·exact hw.ser z k
  ·rw[k];exact hy
 ·have:t=sta0:=by
   unfold d0v at h;split at h
   ·exact (congrArg Prod.fst h).symm
   ·split at h
    ·exact (congrArg Prod.fst h).symm
    ·exact absurd (congrArg Prod.snd h).symm hv
  rw[this];exact x1r
theorem q1a {s:Sta} (hw:StaW s) (l:List Lab) (e:Ev):StaW (d0v s l e).1:=write_w hw (v:=(d0v s l e).2) rfl
structure StaInv (N:Nat) (s:Sta):Prop where
 ok:StaOk s
 w:StaW s
 ser:∀x∈s.2.2.2,x=ser0∨∃l,SerInv s.1 x l∧l≠[]∧l.length≤N
theorem a2e {c:Conf} (h:(k0x c).2=0):StaInv 0 (k0x c).1:=by
 refine ⟨(newSt_ok h).1,newSt_w c,fun x hx => .inl ?_⟩;unfold k0x at h hx;split at hx
 ·split at hx
  ·exact List.eq_of_mem_replicate hx
  ·rename_i h1 h2;rw[if_pos h1,if_neg h2] at h;exact absurd h h2
 ·simp[sta0] at hx
theorem g0g {d f:Nat} (h:d<f):∃g,f=g+1:=⟨f-1,by omega⟩
def Fd (o:Int) (r:Int×Int) (a b:List Slo):Prop:=a.length=b.length∧∀j:Nat,a[j]? = b[j]? ∨ (a[j]? = some s0∧∃s,b[j]? = some s∧s≠s0∧¬b1e o r s)
theorem Fd.refl (o r) (a:List Slo):Fd o r a a:=⟨rfl,fun _ => .inl rfl⟩
theorem Fd.mono {o o':Int} {r} {a b:List Slo} (h:Fd o r a b) (ho:o≤o'):Fd o' r a b :=
 ⟨h.1,fun j=>(h.2 j).imp id fun ⟨h1,s,h2,h3,h4⟩=>⟨h1,s,h2,h3,fun k=>h4 fun q=>k ⟨by have:=q.1;omega,q.2⟩⟩⟩
theorem Fd.fade {o r} {a b:List Slo} (h:Fd o r a b):Fd o r (j0s o r a) b:=by
 refine ⟨by rw[f0k];exact h.1,fun j => ?_⟩;unfold j0s;rw[List.getElem?_map];rcases h.2 j with k | ⟨k,s,k2,k3⟩
 ·rw[k];cases hb:b[j]? with
  | none=>exact .inl rfl
  | some s =>
   simp only[Option.map_some];by_cases q:b1e o r s
   ·rw[if_pos q];exact .inl rfl
   ·rw[if_neg q];by_cases z:s=s0
    ·rw[z];exact .inl rfl
    ·exact .inr ⟨rfl,s,rfl,z,q⟩
 ·rw[k];simp only[Option.map_some];refine .inr ⟨?_,s,k2,k3⟩;split<;>rfl
theorem Fd.put {o r} {a b:List Slo} (h:Fd o r a b) (i:Int) (c:Cel):Fd o r (tput a i c) (tput b i c):=by
 unfold tput;refine ⟨by simp[h.1],fun j => ?_⟩;rw[h.1,List.getElem?_set,List.getElem?_set,h.1];split
 ·exact .inl rfl
 ·exact h.2 j
theorem Fd.up {o:Int} {r r':Int×Int} {a b:List Slo} {w:Int} (h:Fd o r a b) (hb:TierOk b w) (hn:a0q b r.2) (hr:r.1≤r'.1):Fd o r' a b:=by
 refine ⟨h.1,fun j=>(h.2 j).imp id fun ⟨h1,s,h2,h3,h4⟩=>⟨h1,s,h2,h3,fun k=>h4 fun q=>k ⟨q.1,.inl ?_⟩⟩⟩;rcases q.2 with q | q
 ·omega
 ·obtain ⟨_,hf⟩:=(hb.s j s h2).resolve_left h3;have:=hn s (List.mem_of_getElem? h2) (by have:=hf.n.n1;omega);omega
theorem up_ext:∀ {A B:List Slo},Up A→Up B→(∀s,s∈A↔s∈B)→A=B:=by
 intro A;induction A with
 | nil =>
  intro B _ _ h;cases B with
  | nil=>rfl
  | cons b B=>exact absurd ((h b).2 (by simp)) (by simp)
 | cons a A ih =>
  intro B ha hb h;cases B with
  | nil=>exact absurd ((h a).1 (by simp)) (by simp)
  | cons b B =>
   have ha':=ha;have hb':=hb;unfold Up at ha hb;rw[List.pairwise_cons] at ha hb;have e:a=b:=by
    rcases List.mem_cons.1 ((h a).1 (by simp)) with k | k
    ·exact k
    ·rcases List.mem_cons.1 ((h b).2 (by simp)) with q | q
     ·exact q.symm
     ·have:=ha.1 b q;have:=hb.1 a k;omega
   subst e;rw[ih ha.2 hb.2 (fun s => ?_)];constructor
   ·intro k;rcases List.mem_cons.1 ((h s).1 (by simp[k])) with q | q
    ·have:=ha.1 s k;rw[q] at this;omega
    ·exact q
   ·intro k;rcases List.mem_cons.1 ((h s).2 (by simp[k])) with q | q
    ·have:=hb.1 s k;rw[q] at this;omega
    ·exact q
theorem Fd.tfold {o r} {a b:List Slo} {w i j:Int} (h:Fd o r a b) (ha:TierOk a w) (hb:TierOk b w) (hk:o≤i∨r.1≤i∧j≤r.2):tfold a i j=tfold b i j:=by
 have e:within a i j=within b i j:=by
  unfold within;refine congrArg _ (up_ext ((e1o ha).filter _) ((e1o hb).filter _) fun s => ?_);rw[List.mem_filter,List.mem_filter,k0i,k0i];simp only[decide_eq_true_eq];constructor
  ·rintro ⟨⟨h1,h2⟩,h3⟩;obtain ⟨n,hn⟩:=List.getElem?_of_mem h1;rcases h.2 n with k | ⟨k,_⟩
   ·exact ⟨⟨List.mem_of_getElem? (by rw[←k];exact hn),h2⟩,h3⟩
   ·rw[hn] at k;injection k with k;exact absurd k h2
  ·rintro ⟨⟨h1,h2⟩,h3,h4⟩;obtain ⟨n,hn⟩:=List.getElem?_of_mem h1;rcases h.2 n with k | ⟨k,s',k2,k3,k4⟩
   ·exact ⟨⟨List.mem_of_getElem? (by rw[k];exact hn),h2⟩,h3,h4⟩
   ·exfalso;rw[hn] at k2;injection k2 with k2;subst k2;exact k4 fun q=>by have:=q.1;rcases q.2 with q | q<;>omega
 unfold Go.Plim.tfold;rw[e]
structure Fad (c:Conf) (o:Int×(Int×Int)) (x y:Ser):Prop where
 lab:x.1=y.1
 last:x.2.1=y.2.1
 raw:x.2.2.1=y.2.2.1
 opn:x.2.2.2.2=y.2.2.2.2
 t0:Fd o.1 (k0y c y.2.1) x.2.2.2.1.1 y.2.2.2.1.1
 t1:Fd o.2.1 (l0o c y.2.1) x.2.2.2.1.2.1 y.2.2.2.1.2.1
 t2:Fd o.2.2 (0,0) x.2.2.2.1.2.2 y.2.2.2.1.2.2
theorem Fad.refl (c o) (x:Ser):Fad c o x x:=⟨rfl,rfl,rfl,rfl,.refl _ _ _,.refl _ _ _,.refl _ _ _⟩
theorem Fad.mono {c} {o o':Int×(Int×Int)} {x y:Ser} (h:Fad c o x y) (h0:o.1≤o'.1) (h1:o.2.1≤o'.2.1) (h2:o.2.2≤o'.2.2):Fad c o' x y :=
 ⟨h.lab,h.last,h.raw,h.opn,h.t0.mono h0,h.t1.mono h1,h.t2.mono h2⟩
def olds (c:Conf) (now:Int):Int×(Int×Int):=((oldV now c.2.1.1 c.2.2.1.1).1,((oldV now c.2.1.2.1 c.2.2.1.2.1).1,(oldV now c.2.1.2.2 c.2.2.1.2.2).1))
theorem Fad.clean {c} {now:Int} {x y:Ser} (h:Fad c (olds c now) x y):Fad c (olds c now) (g0n c now x) y:=by
 refine ⟨h.lab,h.last,h.raw,h.opn,?_,?_,?_⟩
 ·show Fd _ _ (j0s _ (k0y c x.2.1) _) _;rw[h.last];exact h.t0.fade
 ·show Fd _ _ (j0s _ (l0o c x.2.1) _) _;rw[h.last];exact h.t1.fade
 ·exact h.t2.fade
theorem z0x {c:Conf} (h:OkC c) (t:Int):t / c.2.1.1+1≤(k0y c t).2∧(k0y c t).1≤t / c.2.1.1:=by
 have hr:=h.rng;have hp:=l0u hr.w0.1 hr.w1.1 h.m1;have q:=(edvm (t:=t) hr.w0.1 hr.w1.1 h.m1).2;unfold k0y;simp only;rw[←q];have:=Int.lt_ediv_add_one_mul_self (t / c.2.1.1) hp;rw[Int.add_mul,Int.one_mul] at this;exact ⟨by omega,Int.ediv_mul_le _ (by omega)⟩
theorem k1t {c:Conf} (h:OkC c) (t:Int):t / c.2.1.2.1+1≤(l0o c t).2∧(l0o c t).1≤t / c.2.1.2.1:=by
 have hr:=h.rng;have hp:=l0u hr.w1.1 hr.w2.1 h.m2;have q:=(edvm (t:=t) hr.w1.1 hr.w2.1 h.m2).2;unfold l0o;simp only;rw[←q];have:=Int.lt_ediv_add_one_mul_self (t / c.2.1.2.1) hp;rw[Int.add_mul,Int.one_mul] at this;exact ⟨by omega,Int.ediv_mul_le _ (by omega)⟩
theorem need_nb {c:Conf} {y:Ser} (h:SerOk c y):a0q y.2.2.2.1.1 (k0y c y.2.1).2∧a0q y.2.2.2.1.2.1 (l0o c y.2.1).2:=by
 obtain ⟨b0,b1,_⟩:=nb_all h;exact ⟨e0c b0 (z0x h.fold.cok _).1,e0c b1 (k1t h.fold.cok _).1⟩
theorem Fad.now1 {c} {o} {x y:Ser} (h:Fad c o x y) (hx:SerOk c x) (hy:SerOk c y):now1 c x=now1 c y:=by
 unfold Go.Proofs.YtojobamheigpbaaGreatDoor.now1;have e:Go.Plim.tfold x.2.2.2.1.1 (y.2.1 / c.2.1.2.1*(c.2.1.2.1 / c.2.1.1)) (y.2.1 / c.2.1.1)=Go.Plim.tfold y.2.2.2.1.1 (y.2.1 / c.2.1.2.1*(c.2.1.2.1 / c.2.1.1)) (y.2.1 / c.2.1.1) :=
  h.t0.tfold hx.fold.t0 hy.fold.t0 (.inr ⟨Int.le_refl _,by have:=(z0x hy.fold.cok y.2.1).1;omega⟩)
 rw[h.last,h.opn,e]
theorem Fad.now2 {c} {o} {x y:Ser} (h:Fad c o x y) (hx:SerOk c x) (hy:SerOk c y):now2 c x=now2 c y:=by
 unfold Go.Proofs.YtojobamheigpbaaGreatDoor.now2;have e:Go.Plim.tfold x.2.2.2.1.2.1 (y.2.1 / c.2.1.2.2*(c.2.1.2.2 / c.2.1.2.1)) (y.2.1 / c.2.1.2.1)=Go.Plim.tfold y.2.2.2.1.2.1 (y.2.1 / c.2.1.2.2*(c.2.1.2.2 / c.2.1.2.1)) (y.2.1 / c.2.1.2.1) :=
  h.t1.tfold hx.fold.t1 hy.fold.t1 (.inr ⟨Int.le_refl _,by have:=(k1t hy.fold.cok y.2.1).1;omega⟩)
 rw[h.now1 hx hy,h.last,e]
theorem k1s {c:Conf} (h:OkC c) {T U:Int} (hTU:T≤U):(k0y c T).1≤(k0y c U).1∧(l0o c T).1≤(l0o c U).1:=by
 have hr:=h.rng;have p0:=l0u hr.w0.1 hr.w1.1 h.m1;have p1:=l0u hr.w1.1 hr.w2.1 h.m2;have w1:=hr.w1.1;have w2:=hr.w2.1;exact ⟨Int.mul_le_mul_of_nonneg_right (Int.ediv_le_ediv (by omega) hTU) (by omega),Int.mul_le_mul_of_nonneg_right (Int.ediv_le_ediv (by omega) hTU) (by omega)⟩
theorem up1_fd {c:Conf} (hc:OkC c) {s t:Trs} {o0 o1 T j:Int} {r:Int×Int} (hs:TierOk s.1 c.2.1.1) (ht:TierOk t.1 c.2.1.1) (h0:Fd o0 (k0y c T) s.1 t.1) (h1:Fd o1 r s.2.1 t.2.1) :
  (up1 c s (T / c.2.1.1) j).1=s.1∧(up1 c t (T / c.2.1.1) j).1=t.1∧(up1 c s (T / c.2.1.1) j).2.2=s.2.2∧(up1 c t (T / c.2.1.1) j).2.2=t.2.2∧Fd o1 r (up1 c s (T / c.2.1.1) j).2.1 (up1 c t (T / c.2.1.1) j).2.1:=by
 have hr:=hc.rng;have q:=(edvm (t:=T) hr.w0.1 hr.w1.1 hc.m1).1;have e:mk1 c s (T / c.2.1.2.1)=mk1 c t (T / c.2.1.2.1):=by
  unfold mk1;refine h0.tfold hs ht (.inr ⟨Int.le_refl _,?_⟩);rw[Int.add_mul,Int.one_mul];exact Int.le_refl _
 unfold up1;rw[q,e];split
 ·exact ⟨rfl,rfl,rfl,rfl,h1⟩
 ·split
  ·exact ⟨rfl,rfl,rfl,rfl,h1.put _ _⟩
  ·exact ⟨rfl,rfl,rfl,rfl,h1⟩
theorem up2_fd {c:Conf} (hc:OkC c) {s t:Trs} {o1 o2 T j:Int} {r:Int×Int} (hs:TierOk s.2.1 c.2.1.2.1) (ht:TierOk t.2.1 c.2.1.2.1) (h1:Fd o1 (l0o c T) s.2.1 t.2.1) (h2:Fd o2 r s.2.2 t.2.2) :
  (up2 c s (T / c.2.1.1) j).1=s.1∧(up2 c t (T / c.2.1.1) j).1=t.1∧(up2 c s (T / c.2.1.1) j).2.1=s.2.1∧(up2 c t (T / c.2.1.1) j).2.1=t.2.1∧Fd o2 r (up2 c s (T / c.2.1.1) j).2.2 (up2 c t (T / c.2.1.1) j).2.2:=by
 have hr:=hc.rng;have m02:c.2.1.2.2 % c.2.1.1=0:=hc.m02;have q:=(edvm (t:=T) hr.w0.1 hr.w2.1 m02).1;have e:mk2 c s (T / c.2.1.2.2)=mk2 c t (T / c.2.1.2.2):=by
  unfold mk2;refine h1.tfold hs ht (.inr ⟨Int.le_refl _,?_⟩);rw[Int.add_mul,Int.one_mul];exact Int.le_refl _
 unfold up2;rw[q,e];split
 ·exact ⟨rfl,rfl,rfl,rfl,h2⟩
 ·split
  ·exact ⟨rfl,rfl,rfl,rfl,h2.put _ _⟩
  ·exact ⟨rfl,rfl,rfl,rfl,h2⟩
theorem upw_fd {c:Conf} (hc:OkC c) {s t:Trs} {o0 o1 o2 T U:Int} (hTU:T≤U) (hs:FoldOk c s) (ht:FoldOk c t) (h0:Fd o0 (k0y c T) s.1 t.1) (h1:Fd o1 (l0o c T) s.2.1 t.2.1) (h2:Fd o2 (0,0) s.2.2 t.2.2) (n0:a0q t.1 (k0y c T).2) (n1:a0q t.2.1 (l0o c T).2) :
  Fd o0 (k0y c U) (upw c s (T / c.2.1.1) (U / c.2.1.1)).1 (upw c t (T / c.2.1.1) (U / c.2.1.1)).1∧Fd o1 (l0o c U) (upw c s (T / c.2.1.1) (U / c.2.1.1)).2.1 (upw c t (T / c.2.1.1) (U / c.2.1.1)).2.1∧Fd o2 (0,0) (upw c s (T / c.2.1.1) (U / c.2.1.1)).2.2 (upw c t (T / c.2.1.1) (U / c.2.1.1)).2.2:=by
 obtain ⟨m0,m1⟩:=k1s hc hTU;have k0:Fd o0 (k0y c U) s.1 t.1:=h0.up ht.t0 n0 m0;have k1:Fd o1 (l0o c U) s.2.1 t.2.1:=h1.up ht.t1 n1 m1;obtain ⟨a1,a2,a3,a4,a5⟩:=up1_fd (j:=U / c.2.1.1) hc hs.t0 ht.t0 h0 h1;obtain ⟨_,_,_,_,b5⟩:=up1_fd (j:=U / c.2.1.1) hc hs.t0 ht.t0 h0 k1;have s1:=i1s hs (T / c.2.1.1) (U / c.2.1.1);have t1:=i1s ht (T / c.2.1.1) (U / c.2.1.1);obtain ⟨c1,c2,c3,c4,c5⟩:=up2_fd (o2:=o2) (r:=(0,0)) (j:=U / c.2.1.1) hc s1.t1 t1.t1 a5 (by rw[a3,a4];exact h2);unfold upw;rw[c1,c2,c3,c4,a1,a2];exact ⟨k0,b5,c5⟩
theorem x1a {c:Conf} {o:Int×(Int×Int)} {x y:Ser} {e:Ev} (h:Fad c o x y) (hx:SerOk c x) (hy:SerOk c y) (hlt:y.2.1<e.1) (hq:(turned c y (e.1 / c.2.1.1)).2=0) :
  (turned c x (e.1 / c.2.1.1)).2=0∧(turned c x (e.1 / c.2.1.1)).1.2=(turned c y (e.1 / c.2.1.1)).1.2∧Fd o.1 (k0y c e.1) (turned c x (e.1 / c.2.1.1)).1.1.1 (turned c y (e.1 / c.2.1.1)).1.1.1∧Fd o.2.1 (l0o c e.1) (turned c x (e.1 / c.2.1.1)).1.1.2.1 (turned c y (e.1 / c.2.1.1)).1.1.2.1∧Fd o.2.2 (0,0) (turned c x (e.1 / c.2.1.1)).1.1.2.2 (turned c y (e.1 / c.2.1.1)).1.1.2.2:=by
 have hc:=hy.fold.cok;obtain ⟨n0,n1⟩:=need_nb hy;obtain ⟨m0,m1⟩:=k1s hc (Int.le_of_lt hlt);by_cases ht:u0e y (e.1 / c.2.1.1)
 case neg =>
  have htx:¬u0e x (e.1 / c.2.1.1):=by unfold u0e at ht ⊢;rw[h.opn];exact ht
  unfold turned;rw[if_neg ht,if_neg htx];exact ⟨rfl,h.opn,h.t0.up hy.fold.t0 n0 m0,h.t1.up hy.fold.t1 n1 m1,h.t2⟩
 have htx:u0e x (e.1 / c.2.1.1):=by unfold u0e at ht ⊢;rw[h.opn];exact ht
 have hE:EndsP c y:=by
  rcases hy.st with ⟨_,k⟩ | ⟨_,k⟩
  ·exact absurd k.opn ht.1
  ·exact k
 have ei:y.2.2.2.2.1=y.2.1 / c.2.1.1:=by rw[←hE.fit.l,hE.ol]
 unfold turned at hq ⊢;rw[if_pos ht] at hq;rw[if_pos ht,if_pos htx];by_cases hk:(i0k c y.2.2.2.1 y.2.2.2.2 (e.1 / c.2.1.1)).2=0
 case neg=>rw[if_neg hk] at hq;exact absurd hq hk
 have hk':=hk;unfold i0k at hk';rw[if_pos hy.fold,if_neg ht.1,if_pos hE.fit,if_neg ht.2] at hk';by_cases hb:y.2.2.2.2.1≤e.1 / c.2.1.1∧f0w c.2.1.1 (e.1 / c.2.1.1)
 case neg=>rw[if_neg hb] at hk';cases hk'
 have ey:i0k c y.2.2.2.1 y.2.2.2.2 (e.1 / c.2.1.1)=(upw c (tput y.2.2.2.1.1 y.2.2.2.2.1 y.2.2.2.2.2,y.2.2.2.1.2) y.2.2.2.2.1 (e.1 / c.2.1.1),0):=by
  unfold i0k;rw[if_pos hy.fold,if_neg ht.1,if_pos hE.fit,if_neg ht.2,if_pos hb]
 have ex:i0k c x.2.2.2.1 x.2.2.2.2 (e.1 / c.2.1.1)=(upw c (tput x.2.2.2.1.1 y.2.2.2.2.1 y.2.2.2.2.2,x.2.2.2.1.2) y.2.2.2.2.1 (e.1 / c.2.1.1),0):=by
  unfold i0k;rw[h.opn,if_pos hx.fold,if_neg ht.1,if_pos hE.fit,if_neg ht.2,if_pos hb]
 rw[ex,ey,if_pos rfl,if_pos rfl,ei];have fx:=n0f hx.fold hE.fit;have fy:=n0f hy.fold hE.fit;rw[ei] at fx fy;have k0:=h.t0.put (y.2.1 / c.2.1.1) y.2.2.2.2.2;have nb:a0q (tput y.2.2.2.1.1 (y.2.1 / c.2.1.1) y.2.2.2.2.2) (k0y c y.2.1).2:=f1r n0 (by have:=(z0x hc y.2.1).1;omega);exact ⟨rfl,rfl,upw_fd hc (Int.le_of_lt hlt) fx fy k0 h.t1 h.t2 nb n1⟩
theorem Fad.putE {c:Conf} {o:Int×(Int×Int)} {x y y':Ser} {e:Ev} (h:Fad c o x y) (hx:SerOk c x) (hy:SerOk c y) (hp:putE c y e=(y',0)):∃x',putE c x e=(x',0)∧Fad c o x' y':=by
 obtain ⟨_,he,hlt,_⟩:=j0m hy hp;unfold Go.Proofs.YtojobamheigpbaaGreatDoor.putE at hp ⊢;rw[if_pos ⟨hy,he⟩,if_neg (by omega)] at hp;rw[if_pos ⟨hx,he⟩,if_neg (by rw[h.last];omega)];by_cases h1:(turned c y (e.1 / c.2.1.1)).2=0
 case neg=>rw[if_pos h1] at hp;exact absurd (congrArg Prod.snd hp) h1
 obtain ⟨a1,a2,a3,a4,a5⟩:=x1a h hx hy hlt h1;rw[if_neg (fun k=>k h1)] at hp;rw[if_neg (fun k=>k a1),h.raw,a2];by_cases h2:(g0d y.2.2.1 c.1 e).2=0
 case neg=>rw[if_pos h2] at hp;exact absurd (congrArg Prod.snd hp) h2
 rw[if_neg (fun k=>k h2)] at hp ⊢;by_cases h3:(mrgE (turned c y (e.1 / c.2.1.1)).1.2.2 (b0r e)).2=0
 case neg=>rw[if_pos h3] at hp;exact absurd (congrArg Prod.snd hp) h3
 rw[if_neg (fun k=>k h3)] at hp ⊢;injection hp with hp _;subst hp;exact ⟨_,rfl,h.lab,rfl,rfl,rfl,a3,a4,a5⟩
theorem l1q {α:Type} {s:Sta} (h:StaOk s) (x y:α):tif (decide ((if StaOk s then (0:Int) else 2)=0)) x y=x:=by rw[if_pos h];rfl
theorem l1r {α:Type} {s:Sta} (h:¬StaOk s) (x y:α):tif (decide ((if StaOk s then (0:Int) else 2)=0)) x y=y:=by rw[if_neg h];rfl
theorem a2o {α:Type} {l pre rest:List α} {x:α} {i:Int} (h:l=pre++x::rest) (hi:i=pre.length):l[i.toNat]? = some x:=by subst h hi;simp
theorem set_mid {α:Type} {pre rest:List α} {x v:α} {i:Int} (hi:i=pre.length):(pre++x::rest).set i.toNat v=(pre++[v])++rest:=by subst hi;simp
theorem at_nn {α:Type} {l:List α} {i:Int} {x:α} (h0:0≤i) (h:l[i.toNat]? = some x):at? l i=some x:=by unfold at?;rw[decide_eq_true h0];exact h
section
variable {del:Int×Unit→Option Bool} {p:Int→Bool} {L:List Int} (hd:∀x∈L,del (x,())=some (p x))
include hd
theorem index_il (n:Nat) (l:List Int) (hL:l.length≤1000000):∀(rest pre:List Int) (f:Nat) (i len:Int),(∀x∈rest,x∈L)→l=pre++rest→i=pre.length→len=l.length→rest.length<f →
  (c0r n f (l,del,len,i,())=some (.inl ())∧∀x∈rest,p x=false) ∨
  (∃A x B,rest=A++x::B∧(∀y∈A,p y=false)∧p x=true∧c0r n f (l,del,len,i,())=some (.inr (i+A.length))):=by
 intro rest;induction rest with
 | nil =>
  intro pre f i len hm hl hi hn hf;obtain ⟨f,rfl⟩:∃g,f=g+1:=⟨f-1,by simp at hf;omega⟩;rw[g0m];exact .inl ⟨by simp only[tfd,if_neg (idxe hl hi hn)],by simp⟩
 | cons x rest ih =>
  intro pre f i len hm hl hi hn hf;obtain ⟨f,rfl⟩:∃g,f=g+1:=⟨f-1,by simp at hf;omega⟩;rw[g0m];simp only[tfd,if_pos (idx hl hi hn),c0l hl hi,obs,hd x (hm x (by simp)),idxw hl hi (show l.length≤1000000000000 by omega)];cases hp:p x with
  | true=>exact .inr ⟨[],x,rest,rfl,by simp,hp,by simp⟩
  | false =>
   rw[tff];rcases ih (pre++[x]) f (i+1) len (fun y hy=>hm y (by simp[hy])) (idxl hl) (idxs hi) hn (by simp at hf;omega) with ⟨h1,h2⟩ | ⟨A,y,B,h1,h2,h3,h4⟩
   ·exact .inl ⟨h1,by intro z hz;rcases List.mem_cons.1 hz with rfl | hz;exact hp;exact h2 z hz⟩
   ·refine .inr ⟨x::A,y,B,by rw[h1];rfl,?_,h3,by rw[h4,List.length_cons,show i+1+(A.length:Int)=i+((A.length+1:Nat):Int) by omega]⟩;intro z hz;rcases List.mem_cons.1 hz with rfl | hz
    ·exact hp
    ·exact h2 z hz
theorem b2r (n:Nat) (l0:List Int) (hL:l0.length≤1000000):∀(rest F G:List Int) (f:Nat) (i j:Int),(∀x∈rest,x∈L)→(F++(G++rest)).length=l0.length→G≠[]→i=F.length→j=F.length+G.length→rest.length<f →
  ∃G',c0i n f (F++(G++rest),del,i,j,())=some (.inl (F++rest.filter (fun x => !p x)++G',(F++rest.filter (fun x => !p x)).length,()))∧(F++rest.filter (fun x => !p x)++G').length=l0.length:=by
 intro rest;induction rest with
 | nil =>
  intro F G f i j hm hl hg hi hj hf;obtain ⟨f,rfl⟩:∃g,f=g+1:=⟨f-1,by simp at hf;omega⟩;rw[g0b];have:¬(j<((F++(G++[])).length:Int)):=by simp;omega
  simp only[tfd,if_neg this];exact ⟨G,by simp[hi],by simpa using hl⟩
 | cons x rest ih =>
  intro F G f i j hm hl hg hi hj hf;have hm':∀y∈rest,y∈L:=fun y hy=>hm y (by simp[hy])
  obtain ⟨f,rfl⟩:∃g,f=g+1:=⟨f-1,by simp at hf;omega⟩;rw[g0b];simp only[List.length_append,List.length_cons] at hl;have hlt:j<((F++(G++x::rest)).length:Int):=by simp;omega
  have hat:at? (F++(G++x::rest)) j=some x:=c0l (pre:=F++G) (rest:=rest) (by simp) (by simp;omega);have hget:(F++(G++x::rest))[j.toNat]? = some x:=by
   rw[show j.toNat=F.length+G.length by omega,List.getElem?_append_right (by omega),List.getElem?_append_right (by omega)];simp
  simp only[tfd,if_pos hlt,hat,hget,obs,hd x (hm x (by simp))];have wj:IntKind.wrap .i64 (j+1)=j+1:=by rw[w64 (by omega) (by omega)]
  have wi:IntKind.wrap .i64 (i+1)=i+1:=by rw[w64 (by omega) (by omega)]
  rw[wj,wi]
  match G,hg with
  | g::G,_ =>
  cases hp:p x with
  | false =>
   have hat':at? (F++(g::G++x::rest)) i=some g:=c0l (pre:=F) (rest:=G++x::rest) (by simp) hi;have hget':(F++(g::G++x::rest))[i.toNat]? = some g:=by
    rw[show i.toNat=F.length by omega];simp
   have hset:(F++(g::G++x::rest)).set i.toNat x=(F++[x])++((G++[x])++rest):=by
    rw[show i.toNat=F.length by omega,List.set_append_right _ _ (by omega)];simp
   simp only[Bool.not_false,tft,hat',hget',obs,hset];obtain ⟨G',h1,h2⟩:=ih (F++[x]) (G++[x]) f (i+1) (j+1) hm' (by simp at hl ⊢;omega) (by simp) (by simp;omega) (by simp at hj ⊢;omega) (by simp at hf;omega);refine ⟨G',?_,?_⟩
   ·rw[h1];simp[List.filter_cons,hp]
   ·rw[←h2];simp[List.filter_cons,hp]
  | true =>
   simp only[Bool.not_true,tff];obtain ⟨G',h1,h2⟩:=ih F (g::G++[x]) f i (j+1) hm' (by simp at hl ⊢;omega) (by simp) hi (by simp at hj ⊢;omega) (by simp at hf;omega);simp only[List.append_assoc,List.singleton_append] at h1;refine ⟨G',?_,?_⟩
   ·rw[h1];simp[List.filter_cons,hp]
   ·rw[←h2];simp[List.filter_cons,hp]
theorem v1z (n:Nat) (l:List Int) (hL:l.length≤1000000) (hm:∀x∈l,x∈L):g0r (n+2) l del=some (l.filter fun x => !p x):=by
 rw[q0f,r0g];rcases index_il hd n l hL l [] a0b 0 l.length hm rfl rfl rfl (by unfold a0b;omega) with ⟨h1,h2⟩ | ⟨A,x,B,h1,h2,h3,h4⟩
 ·rw[h1];simp only[obs,b0j,tfd,if_pos trivial];exact congrArg some (List.filter_eq_self.2 fun y hy=>by simp[h2 y hy]).symm
 ·rw[h4];have hl:l.length=A.length+(B.length+1):=by rw[h1];simp
  simp only[obs,t0a,tfd,Int.zero_add];rw[if_neg (by omega),w64 (x:=(A.length:Int)+1) (by omega) (by omega)];obtain ⟨G',g1,g2⟩:=b2r hd (n+1) l hL B A [x] a0b (A.length:Int) (A.length+1) (fun y hy=>hm y (by rw[h1];simp[hy])) (by rw[h1];simp) (by simp) rfl (by simp) (by unfold a0b;omega);rw[show A++([x]++B)=l by rw[h1];simp] at g1;rw[g1];have hF:A++B.filter (fun x => !p x)=l.filter fun x => !p x:=by
   rw[h1,List.filter_append,List.filter_cons];have:A.filter (fun x => !p x)=A:=List.filter_eq_self.2 fun y hy=>by simp[h2 y hy]
   simp[h3,this]
  rw[hF] at g2 ⊢;generalize (l.filter fun x => !p x)=F at *
  simp only[obs,b0j,u0k,tfd,Int.toNat_natCast];have hle:F.length≤(F++G').length:=by simp
  have k1:putRow (F++G') F.length (List.replicate ((F++G').length-F.length) (0:Int))=F++List.replicate ((F++G').length-F.length) (0:Int):=by
   unfold putRow;rw[List.drop_of_length_le (by simp)];simp
  rw[k1,if_pos (by omega),if_pos hle,if_pos (by omega),if_pos (by omega),if_pos (by simp;omega)];simp
end
theorem o1t {s:Sta} {z:Int} (h:z∈(l0p s).map Int.ofNat):0≤z∧∃y,s.2.2.2[z.toNat]? = some y∧LvX s y:=by
 obtain ⟨i,hi,rfl⟩:=List.mem_map.1 h;have h1:=(List.mem_filter.1 hi).2;obtain ⟨x,hx,hl⟩:=f1t.1 h1;exact ⟨Int.natCast_nonneg i,x,hx,hl⟩
theorem m1u (n:Nat) {s:Sta} {z:Int} {x:Ser} (h0:0≤z) (hx:s.2.2.2[z.toNat]? = some x):j0f (n+7) z s=some (!p1i s z.toNat):=by
 rw[b1j,at_nn h0 hx,obs,r0h n,obs];unfold p1i;rw[hx]
theorem due_list (s:Sta):((l0p s).map Int.ofNat).filter (fun z=>p1i s z.toNat)=((l0p s).filter (p1i s)).map Int.ofNat:=by
 rw[List.filter_map];rfl
theorem x1i (n:Nat) {s:Sta} (hw:StaW s):y0y (n+15) s=some ((dueV s).map Int.ofNat):=by
 rw[j1c,h0g n hw,obs,tfn];unfold dueV;by_cases h:StaOk s
 case neg=>rw[l1r h,if_neg h];rfl
 have hd:∀z∈(l0p s).map Int.ofNat,(fun y2:Int×Unit=>j0f (n+14) y2.1 s) (z,())=some (!p1i s z.toNat):=fun z hz=>by
  obtain ⟨h0,y,hy,_⟩:=o1t hz;exact m1u (n+7) h0 hy
 have hL:((l0p s).map Int.ofNat).length≤1000000:=by have:=r1m s;have:=h.whole.len;simp;omega
 have e:liveR s=(l0p s).map Int.ofNat:=if_pos h.whole;rw[l1q h,q1m (n+6) hw,obs,e,v1z (del:=fun y2:Int×Unit=>j0f (n+14) y2.1 s) (p:=fun z => !p1i s z.toNat) hd (n+12) _ hL (fun _ hx=>hx),obs,if_pos h,←due_list];simp only[Bool.not_not]
noncomputable def doV (s:Sta):Sta×(Int×Int):=if StaOk s then (w0e s,(((dueV s).length:Int),0)) else (sta0,(0,2))
theorem sweep_do (n:Nat) {s:Sta} (hw:StaW s):e1q (n+16) s=some (doV s):=by
 rw[m1w,h0g (n+1) hw,obs,tfn];unfold doV;by_cases h:StaOk s
 case neg=>rw[l1r h,if_neg h,if_neg h];rfl
 rw[l1q h,if_pos h,x1i n hw,obs,List.length_map];rfl
theorem q1k {s:Sta} (hw:StaW s):StaW (w0e s):=⟨hw.len,hw.ser⟩
end Go.Proofs.YtojobamheigpbaaGreatDoor
