/- Trees, printed by program. -/
import Derived.Test.YtagnkfbpgkckiaaGreatTr0
import Derived.KernelRfl
set_option linter.unusedVariables false
namespace Go.Proofs.YtagnkfbpgkckiaaGreat
open Go.Flat
theorem r1l (n:Nat) (a:(Int×Int)):p0q (n+1) a =
 some ((IntKind.wrap .i64 (andI .u64 (shrI .u64 a.2 (0:Int)) (255:Int))),((IntKind.wrap .i64 (andI .u64 (shrI .u64 a.2 (8:Int)) (255:Int))),((IntKind.wrap .i64 (andI .u64 (shrI .u64 a.2 (16:Int)) (255:Int))),((IntKind.wrap .i64 (andI .u64 (shrI .u64 a.2 (24:Int)) (255:Int))),((IntKind.wrap .i64 (andI .u64 (shrI .u64 a.2 (32:Int)) (255:Int))),((IntKind.wrap .i64 (andI .u64 (shrI .u64 a.2 (40:Int)) (255:Int))),((IntKind.wrap .i64 (andI .u64 (shrI .u64 a.2 (48:Int)) (255:Int))),((IntKind.wrap .i64 (andI .u64 (shrI .u64 a.2 (56:Int)) (255:Int))),((IntKind.wrap .i64 (andI .u64 (shrI .u64 a.1 (0:Int)) (255:Int))),((IntKind.wrap .i64 (andI .u64 (shrI .u64 a.1 (8:Int)) (255:Int))),((IntKind.wrap .i64 (andI .u64 (shrI .u64 a.1 (16:Int)) (255:Int))),((IntKind.wrap .i64 (andI .u64 (shrI .u64 a.1 (24:Int)) (255:Int))),((IntKind.wrap .i64 (andI .u64 (shrI .u64 a.1 (32:Int)) (255:Int))),((IntKind.wrap .i64 (andI .u64 (shrI .u64 a.1 (40:Int)) (255:Int))),((IntKind.wrap .i64 (andI .u64 (shrI .u64 a.1 (48:Int)) (255:Int))),(IntKind.wrap .i64 (andI .u64 (shrI .u64 a.1 (56:Int)) (255:Int)))))))))))))))))):=by kernel_rfl
theorem i1b (n:Nat) (n_:Int) (low:Int) (high:Int):q0h (n+1) n_ low high =
 tif ((decide (low≤n_))) (
 some (decide (n_≤high))) (
 some false):=by kernel_rfl
theorem t1x (n:Nat) (w:Int):x1m (n+1) w =
 a0a (q0h n w (1:Int) (1099511627776:Int)) fun r0 =>
 some r0:=by kernel_rfl
theorem p1a (n:Nat) (n_:Int) (low:Int) (high:Int):p1b (n+1) n_ low high =
 tif ((decide (low≤n_))) (
 some (decide (n_≤high))) (
 some false):=by kernel_rfl
theorem v0b (n:Nat) (s:(List Int)) (f_:((Int×Unit)→Option Bool)):p0k (n+1) s f_ =
 a0a (d0s n a0b (s,(f_,((((List.length s):Nat):Int),(0,()))))) fun r0 =>
 b0m (fun y1 =>
 some ((-1):Int)) (fun z2 =>
 some z2) r0:=by kernel_rfl
theorem i0w (n f:Nat) (s:(List Int)) (f_:((Int×Unit)→Option Bool)) (s7:Int) (s8:Int):d0s n (f+1) (s,f_,s7,s8,()) =
 tif ((decide (s8<s7))) (
 a0a (at? s s8) fun r0 =>
 a0a (f_ (r0,())) fun r1 =>
 tif (r1) (
 some (.inr s8)) (
 d0s n f (s,(f_,(s7,((IntKind.wrap .i64 (s8+1)),())))))) (
 some (.inl ())):=by kernel_rfl
theorem j1d (n:Nat) (l:(List a0j)):r0q (n+1) l =
 a0a (k0m n a0b (l,((((List.length l):Nat):Int),(0,())))) fun r0 =>
 b0m (fun y1 =>
 some true) (fun z2 =>
 some z2) r0:=by kernel_rfl
theorem p0z (n f:Nat) (s5:(List a0j)) (s6:Int) (s7:Int):k0m n (f+1) (s5,s6,s7,()) =
 tif ((decide (s7<s6))) (
 a0a (at? s5 s7) fun r0 =>
 a0a (n0q n r0) fun r1 =>
 tif ((!(decide (r1=0)))) (
 some (.inr false)) (
 k0m n f (s5,(s6,((IntKind.wrap .i64 (s7+1)),()))))) (
 some (.inl ())):=by kernel_rfl
theorem t1p (n:Nat) (c:b1p):g1z (n+1) c =
 some ((decide (c.1=0))&&((decide (c.2.1.1=0))&&((decide (c.2.1.2.1=0))&&((decide (c.2.1.2.2.1=0))&&((c.2.1.2.2.2==false)&&((decide (c.2.2.1.1=0))&&((decide (c.2.2.1.2.1=0))&&((decide (c.2.2.1.2.2.1=0))&&((c.2.2.1.2.2.2==false)&&((decide (c.2.2.2.1.1=0))&&((decide (c.2.2.2.1.2=0))&&((decide (c.2.2.2.2.1=0))&&((decide (c.2.2.2.2.2.1=0))&&(decide (c.2.2.2.2.2.2=0))))))))))))))):=by kernel_rfl
theorem p1g (n:Nat) (s:a0d):s0o (n+1) s =
 some ((decide (s.1=0))&&((decide (s.2.1=0))&&((decide (s.2.2.1.1=0))&&((decide (s.2.2.1.2.1=0))&&((decide (s.2.2.1.2.2.1=0))&&((s.2.2.1.2.2.2==false)&&((decide (s.2.2.2.1.1=0))&&((decide (s.2.2.2.1.2.1=0))&&((decide (s.2.2.2.1.2.2.1=0))&&((s.2.2.2.1.2.2.2==false)&&((decide (s.2.2.2.2.1.1=0))&&((decide (s.2.2.2.2.1.2=0))&&((decide (s.2.2.2.2.2.1=0))&&((decide (s.2.2.2.2.2.2.1=0))&&(decide (s.2.2.2.2.2.2.2=0)))))))))))))))):=by kernel_rfl
theorem z1w (n:Nat) (i:Int) (n_:Int):t1z (n+1) i n_ =
 tif ((decide (i<0))) (
 some (0:Int)) (
 tif ((decide (n_<1))) (
 some (0:Int)) (
 tif ((decide (n_=0))) (
 none) (
 some (Int.tmod i n_)))):=by kernel_rfl
theorem l0l (n:Nat) (s:(List a0d)) (f_:((a0d×Unit)→Option Bool)):j0u (n+1) s f_ =
 a0a (d0t n a0b (s,(f_,((((List.length s):Nat):Int),(0,()))))) fun r0 =>
 b0m (fun y1 =>
 some ((-1):Int)) (fun z2 =>
 some z2) r0:=by kernel_rfl
theorem i0x (n f:Nat) (s:(List a0d)) (f_:((a0d×Unit)→Option Bool)) (s7:Int) (s8:Int):d0t n (f+1) (s,f_,s7,s8,()) =
 tif ((decide (s8<s7))) (
 a0a (at? s s8) fun r0 =>
 a0a (f_ (r0,())) fun r1 =>
 tif (r1) (
 some (.inr s8)) (
 d0t n f (s,(f_,(s7,((IntKind.wrap .i64 (s8+1)),())))))) (
 some (.inl ())):=by kernel_rfl
theorem o1p (n:Nat) (c:b1p):b1i (n+1) c =
 tif ((decide (c.1=1))) (
 tif (((decide (c.2.1.1=c.2.2.1.1))&&((decide (c.2.1.2.1=c.2.2.1.2.1))&&((decide (c.2.1.2.2.1=c.2.2.1.2.2.1))&&(c.2.1.2.2.2==c.2.2.1.2.2.2))))) (
 a0a (n0q n c.2.1) fun r0 =>
 some (decide (r0=0))) (
 some false)) (
 tif ((decide ((1:Int)<c.1))) (
 a0a (o0n n c.2.1 c.2.2.1) fun r1 =>
 tif (r1) (
 some (decide ((IntKind.wrap .i64 (c.1-1))≤(IntKind.wrap .i64 (c.2.2.1.1-c.2.1.1))))) (
 some false)) (
 some false)):=by kernel_rfl
theorem l1j (n:Nat) (a:(Int×Int)) (n_:Int):z0t (n+1) a n_ =
 a0a (g0m n a.2 n_) fun r0 =>
 a0a (g0m n a.1 n_) fun r1 =>
 tif (((decide ((0:Int)≤r1.2))&&((decide ((0:Int)≤r0.1))&&true))) (
 a0a (d1x n ((((r1.2+r0.1)+0) % (18446744073709551616:Int)),r0.2) (orI .u64 r1.1 (((r1.2+r0.1)+0) / (18446744073709551616:Int)))) fun r2 =>
 some r2) (
 none):=by kernel_rfl
theorem z1v (n:Nat) (n_:Int):t1w (n+1) n_ =
 some (0,n_):=by kernel_rfl
theorem o1z (n:Nat) (a:(Int×Int)) (b:(Int×Int)):d1y (n+1) a b =
 tif ((decide (a.1<b.1))) (
 some true) (
 tif ((decide (a.1=b.1))) (
 some (decide (a.2<b.2))) (
 some false)):=by kernel_rfl
theorem c2n (n:Nat) (n_:Int) (most:Int):h1e (n+1) n_ most =
 tif ((decide ((0:Int)≤n_))) (
 some (decide (n_≤most))) (
 some false):=by kernel_rfl
theorem f2f (n:Nat) (l:(Int×(Int×(Int×(Int×(Int×(Int×(Int×(Int×(Int×(Int×(Int×(Int×(Int×(Int×(Int×Int)))))))))))))))):y1g (n+1) l =
 some ((orI .u64 (orI .u64 (orI .u64 (orI .u64 (orI .u64 (orI .u64 (orI .u64 (orI .u64 (0:Int) (shlI .u64 (IntKind.wrap .u64 l.2.2.2.2.2.2.2.2.1) (0:Int))) (shlI .u64 (IntKind.wrap .u64 l.2.2.2.2.2.2.2.2.2.1) (8:Int))) (shlI .u64 (IntKind.wrap .u64 l.2.2.2.2.2.2.2.2.2.2.1) (16:Int))) (shlI .u64 (IntKind.wrap .u64 l.2.2.2.2.2.2.2.2.2.2.2.1) (24:Int))) (shlI .u64 (IntKind.wrap .u64 l.2.2.2.2.2.2.2.2.2.2.2.2.1) (32:Int))) (shlI .u64 (IntKind.wrap .u64 l.2.2.2.2.2.2.2.2.2.2.2.2.2.1) (40:Int))) (shlI .u64 (IntKind.wrap .u64 l.2.2.2.2.2.2.2.2.2.2.2.2.2.2.1) (48:Int))) (shlI .u64 (IntKind.wrap .u64 l.2.2.2.2.2.2.2.2.2.2.2.2.2.2.2) (56:Int))),(orI .u64 (orI .u64 (orI .u64 (orI .u64 (orI .u64 (orI .u64 (orI .u64 (orI .u64 (0:Int) (shlI .u64 (IntKind.wrap .u64 l.1) (0:Int))) (shlI .u64 (IntKind.wrap .u64 l.2.1) (8:Int))) (shlI .u64 (IntKind.wrap .u64 l.2.2.1) (16:Int))) (shlI .u64 (IntKind.wrap .u64 l.2.2.2.1) (24:Int))) (shlI .u64 (IntKind.wrap .u64 l.2.2.2.2.1) (32:Int))) (shlI .u64 (IntKind.wrap .u64 l.2.2.2.2.2.1) (40:Int))) (shlI .u64 (IntKind.wrap .u64 l.2.2.2.2.2.2.1) (48:Int))) (shlI .u64 (IntKind.wrap .u64 l.2.2.2.2.2.2.2.1) (56:Int)))):=by kernel_rfl
theorem c1s (n:Nat) (s:(List a0d)):q0s (n+1) s =
 tif ((decide ((List.length s)=0))) (
 both (
 some []) (
 tif ((decide (((0+(List.length s))*120)≤140737488355328))) (
 some ([]++s)) (
 none))) (
 tif ((decide (((0+(List.length s))*120)≤140737488355328))) (
 some ([]++s)) (
 none)):=by kernel_rfl
theorem o1y (n:Nat) (a:(Int×Int)) (over:Int):d1x (n+1) a over =
 tif ((!(decide (over=0)))) (
 some ((0,0),1)) (
 some (a,0)):=by kernel_rfl
theorem s0r (n:Nat) (s:(List a0d)) (del:((a0d×Unit)→Option Bool)):j0a (n+1) s del =
 a0a (j0u n s del) fun r0 =>
 tif ((decide (r0=((-1):Int)))) (
 some s) (
 a0a (d0l n a0b (s,(del,(r0,((IntKind.wrap .i64 (r0+1)),()))))) fun r1 =>
 b0m (fun y2 =>
 tif ((decide ((0:Int)≤y2.2.1))) (
 tif ((decide ((Int.toNat y2.2.1)≤(List.length y2.1)))) (
 tif ((decide (((Int.toNat y2.2.1)+((List.length y2.1)-(Int.toNat y2.2.1)))≤(List.length y2.1)))) (
 tif (((decide ((0:Int)≤y2.2.1))&&(decide (y2.2.1≤(((List.length (Go.Flat.putRow y2.1 (Int.toNat y2.2.1) (List.replicate ((List.length y2.1)-(Int.toNat y2.2.1)) (0,(0,((0,(0,(0,false))),((0,(0,(0,false))),((0,0),(0,(0,0)))))))))):Nat):Int))))) (
 some (List.take ((Int.toNat y2.2.1)-0) (Go.Flat.putRow y2.1 (Int.toNat y2.2.1) (List.replicate ((List.length y2.1)-(Int.toNat y2.2.1)) (0,(0,((0,(0,(0,false))),((0,(0,(0,false))),((0,0),(0,(0,0))))))))))) (
 none)) (
 none)) (
 none)) (
 none)) (fun z3 =>
 some z3) r1):=by kernel_rfl
theorem i0l (n f:Nat) (s:(List a0d)) (del:((a0d×Unit)→Option Bool)) (i:Int) (j:Int):d0l n (f+1) (s,del,i,j,()) =
 tif ((decide (j<(((List.length s):Nat):Int)))) (
 a0a (at? s j) fun r0 =>
 a0a ((s)[(Int.toNat j)]?) fun r1 =>
 a0a (del (r1,())) fun r2 =>
 tif ((!r2)) (
 a0a (at? s i) fun r3 =>
 a0a ((s)[(Int.toNat i)]?) fun r4 =>
 d0l n f ((List.set s (Int.toNat i) r1),(del,((IntKind.wrap .i64 (i+1)),((IntKind.wrap .i64 (j+1)),()))))) (
 d0l n f (s,(del,(i,((IntKind.wrap .i64 (j+1)),())))))) (
 some (.inl (s,(i,())))):=by kernel_rfl
theorem o0w (n:Nat) (x:(List a0d)) (cmp:((a0d×(a0d×Unit))→Option Int)):g0b (n+1) x cmp =
 a0a (e2d n x (((List.length x):Nat):Int) cmp) fun r0 =>
 some r0:=by kernel_rfl
theorem l1s (n:Nat) (a:a0d) (b:a0d):u0e (n+1) a b =
 a0a (k0d n a.1 b.1) fun r0 =>
 some r0:=by kernel_rfl
theorem v0g (n:Nat) (x:Int) (y:Int):k0d (n+1) x y =
 a0a (n0s n x) fun r0 =>
 a0a (n0s n y) fun r1 =>
 tif (r0) (
 tif (r1) (
 some (0:Int)) (
 some ((-1):Int))) (
 tif (r1) (
 some (1:Int)) (
 tif ((decide (x<y))) (
 some ((-1):Int)) (
 tif ((decide (y<x))) (
 some (1:Int)) (
 some (0:Int))))):=by kernel_rfl
theorem a2m (n:Nat) (data:(List a0d)) (n_:Int) (cmp:((a0d×(a0d×Unit))→Option Int)):e2d (n+1) data n_ cmp =
 a0a (p0i n a0b (data,(n_,(cmp,(20,(0,(20,()))))))) fun r0 =>
 b0m (fun y1 =>
 a0a (m1b n y1.1 y1.2.2.2.2.1 y1.2.1 y1.2.2.1) fun r2 =>
 a0a (m0b n a0b (r2,(y1.2.1,(y1.2.2.1,(y1.2.2.2.1,()))))) fun r3 =>
 b0m (fun y4 =>
 some y4.1) (fun z5 =>
 some z5) r3) (fun z6 =>
 some z6) r0:=by kernel_rfl
theorem x0p (n f:Nat) (data:(List a0d)) (n_:Int) (cmp:((a0d×(a0d×Unit))→Option Int)) (blockSize:Int) (a:Int) (b:Int):p0i n (f+1) (data,n_,cmp,blockSize,a,b,()) =
 tif ((decide (b≤n_))) (
 a0a (m1b n data a b cmp) fun r0 =>
 p0i n f (r0,(n_,(cmp,(blockSize,(b,((IntKind.wrap .i64 (b+blockSize)),()))))))) (
 some (.inl (data,(n_,(cmp,(blockSize,(a,()))))))):=by kernel_rfl
theorem x0o (n f:Nat) (data:(List a0d)) (n_:Int) (cmp:((a0d×(a0d×Unit))→Option Int)) (blockSize:Int):m0b n (f+1) (data,n_,cmp,blockSize,()) =
 tif ((decide (blockSize<n_))) (
 a0a (u0h n a0b (data,(n_,(cmp,(blockSize,(0,((IntKind.wrap .i64 ((2:Int)*blockSize)),()))))))) fun r0 =>
 b0m (fun y1 =>
 tif ((decide ((IntKind.wrap .i64 (y1.2.2.2.2.1+y1.2.2.2.1))<y1.2.1))) (
 a0a (b0t n y1.1 y1.2.2.2.2.1 (IntKind.wrap .i64 (y1.2.2.2.2.1+y1.2.2.2.1)) y1.2.1 y1.2.2.1) fun r2 =>
 m0b n f (r2,(y1.2.1,(y1.2.2.1,((IntKind.wrap .i64 (y1.2.2.2.1*2)),()))))) (
 m0b n f (y1.1,(y1.2.1,(y1.2.2.1,((IntKind.wrap .i64 (y1.2.2.2.1*2)),())))))) (fun z3 =>
 some (.inr z3)) r0) (
 some (.inl (data,()))):=by kernel_rfl
theorem x0n (n f:Nat) (data:(List a0d)) (n_:Int) (cmp:((a0d×(a0d×Unit))→Option Int)) (blockSize:Int) (a:Int) (b:Int):u0h n (f+1) (data,n_,cmp,blockSize,a,b,()) =
 tif ((decide (b≤n_))) (
 a0a (b0t n data a (IntKind.wrap .i64 (a+blockSize)) b cmp) fun r0 =>
 u0h n f (r0,(n_,(cmp,(blockSize,(b,((IntKind.wrap .i64 (b+(IntKind.wrap .i64 ((2:Int)*blockSize)))),()))))))) (
 some (.inl (data,(n_,(cmp,(blockSize,(a,()))))))):=by kernel_rfl
theorem o0p (n:Nat) (x:Int):n0s (n+1) x =
 some (!(decide (x=x))):=by kernel_rfl
theorem a2o (n:Nat) (data:(List a0d)) (a:Int) (b:Int) (cmp:((a0d×(a0d×Unit))→Option Int)):m1b (n+1) data a b cmp =
 a0a (u0j n a0b (data,(a,(b,(cmp,((IntKind.wrap .i64 (a+1)),())))))) fun r0 =>
 b0m (fun y1 =>
 some y1.1) (fun z2 =>
 some z2) r0:=by kernel_rfl
theorem x0r (n f:Nat) (data:(List a0d)) (a:Int) (b:Int) (cmp:((a0d×(a0d×Unit))→Option Int)) (i:Int):u0j n (f+1) (data,a,b,cmp,i,()) =
 tif ((decide (i<b))) (
 a0a (u0i n a0b (data,(a,(b,(cmp,(i,(i,()))))))) fun r0 =>
 b0m (fun y1 =>
 u0j n f (y1.1,(y1.2.1,(y1.2.2.1,(y1.2.2.2.1,((IntKind.wrap .i64 (y1.2.2.2.2.1+1)),())))))) (fun z2 =>
 some (.inr z2)) r0) (
 some (.inl (data,()))):=by kernel_rfl
theorem x0q (n f:Nat) (data:(List a0d)) (a:Int) (b:Int) (cmp:((a0d×(a0d×Unit))→Option Int)) (i:Int) (j:Int):u0i n (f+1) (data,a,b,cmp,i,j,()) =
 tif ((decide (a<j))) (
 a0a (at? data j) fun r0 =>
 a0a ((data)[(Int.toNat j)]?) fun r1 =>
 a0a (at? data (IntKind.wrap .i64 (j-1))) fun r2 =>
 a0a ((data)[(Int.toNat (IntKind.wrap .i64 (j-1)))]?) fun r3 =>
 a0a (cmp (r1,(r3,()))) fun r4 =>
 tif ((decide (r4<0))) (
 a0a (at? data (IntKind.wrap .i64 (j-1))) fun r5 =>
 a0a ((data)[(Int.toNat (IntKind.wrap .i64 (j-1)))]?) fun r6 =>
 a0a (at? data j) fun r7 =>
 a0a ((data)[(Int.toNat j)]?) fun r8 =>
 a0a (at? data j) fun r9 =>
 a0a ((data)[(Int.toNat j)]?) fun r10 =>
 a0a (at? (List.set data (Int.toNat j) r6) (IntKind.wrap .i64 (j-1))) fun r11 =>
 a0a (((List.set data (Int.toNat j) r6))[(Int.toNat (IntKind.wrap .i64 (j-1)))]?) fun r12 =>
 u0i n f ((List.set (List.set data (Int.toNat j) r6) (Int.toNat (IntKind.wrap .i64 (j-1))) r8),(a,(b,(cmp,(i,((IntKind.wrap .i64 (j-1)),()))))))) (
 some (.inl (data,(a,(b,(cmp,(i,())))))))) (
 some (.inl (data,(a,(b,(cmp,(i,()))))))):=by kernel_rfl
theorem a2k (n:Nat) (data:(List a0d)) (a:Int) (m:Int) (b:Int) (cmp:((a0d×(a0d×Unit))→Option Int)):b0t (n+1) data a m b cmp =
 tif ((decide ((IntKind.wrap .i64 (m-a))=1))) (
 a0a (p0h n a0b (data,(a,(cmp,(m,(b,())))))) fun r0 =>
 b0m (fun y1 =>
 a0a (u0f n a0b (y1.1,(y1.2.2.1,(y1.2.1,())))) fun r2 =>
 b0m (fun y3 =>
 some y3.1) (fun z4 =>
 some z4) r2) (fun z5 =>
 some z5) r0) (
 tif ((decide ((IntKind.wrap .i64 (b-m))=1))) (
 a0a (m0o n a0b (data,(m,(cmp,(a,(m,())))))) fun r6 =>
 b0m (fun y7 =>
 a0a (q0p n a0b (y7.1,(y7.2.2.1,(y7.2.1,())))) fun r8 =>
 b0m (fun y9 =>
 some y9.1) (fun z10 =>
 some z10) r8) (fun z11 =>
 some z11) r6) (
 tif ((decide ((IntKind.wrap .i64 (shrI .u64 (IntKind.wrap .u64 (IntKind.wrap .i64 (a+b))) (1:Int)))<m))) (
 a0a (j0t n a0b (data,(a,(m,(b,(cmp,((IntKind.wrap .i64 (shrI .u64 (IntKind.wrap .u64 (IntKind.wrap .i64 (a+b))) (1:Int))),((IntKind.wrap .i64 ((IntKind.wrap .i64 (shrI .u64 (IntKind.wrap .u64 (IntKind.wrap .i64 (a+b))) (1:Int)))+m)),((IntKind.wrap .i64 ((IntKind.wrap .i64 ((IntKind.wrap .i64 (shrI .u64 (IntKind.wrap .u64 (IntKind.wrap .i64 (a+b))) (1:Int)))+m))-b)),((IntKind.wrap .i64 (shrI .u64 (IntKind.wrap .u64 (IntKind.wrap .i64 (a+b))) (1:Int))),((IntKind.wrap .i64 ((IntKind.wrap .i64 ((IntKind.wrap .i64 (shrI .u64 (IntKind.wrap .u64 (IntKind.wrap .i64 (a+b))) (1:Int)))+m))-1)),()))))))))))) fun r12 =>
 b0m (fun y13 =>
 tif ((decide (y13.2.2.2.2.2.2.2.1<y13.2.2.1))) (
 tif ((decide (y13.2.2.1<(IntKind.wrap .i64 (y13.2.2.2.2.2.2.1-y13.2.2.2.2.2.2.2.1))))) (
 a0a (e1n n y13.1 y13.2.2.2.2.2.2.2.1 y13.2.2.1 (IntKind.wrap .i64 (y13.2.2.2.2.2.2.1-y13.2.2.2.2.2.2.2.1)) y13.2.2.2.2.1) fun r14 =>
 tif ((decide (y13.2.1<y13.2.2.2.2.2.2.2.1))) (
 tif ((decide (y13.2.2.2.2.2.2.2.1<y13.2.2.2.2.2.1))) (
 a0a (b0t n r14 y13.2.1 y13.2.2.2.2.2.2.2.1 y13.2.2.2.2.2.1 y13.2.2.2.2.1) fun r15 =>
 tif ((decide (y13.2.2.2.2.2.1<(IntKind.wrap .i64 (y13.2.2.2.2.2.2.1-y13.2.2.2.2.2.2.2.1))))) (
 tif ((decide ((IntKind.wrap .i64 (y13.2.2.2.2.2.2.1-y13.2.2.2.2.2.2.2.1))<y13.2.2.2.1))) (
 a0a (b0t n r15 y13.2.2.2.2.2.1 (IntKind.wrap .i64 (y13.2.2.2.2.2.2.1-y13.2.2.2.2.2.2.2.1)) y13.2.2.2.1 y13.2.2.2.2.1) fun r16 =>
 some r16) (
 some r15)) (
 some r15)) (
 tif ((decide (y13.2.2.2.2.2.1<(IntKind.wrap .i64 (y13.2.2.2.2.2.2.1-y13.2.2.2.2.2.2.2.1))))) (
 tif ((decide ((IntKind.wrap .i64 (y13.2.2.2.2.2.2.1-y13.2.2.2.2.2.2.2.1))<y13.2.2.2.1))) (
 a0a (b0t n r14 y13.2.2.2.2.2.1 (IntKind.wrap .i64 (y13.2.2.2.2.2.2.1-y13.2.2.2.2.2.2.2.1)) y13.2.2.2.1 y13.2.2.2.2.1) fun r17 =>
 some r17) (
 some r14)) (
 some r14))) (
 tif ((decide (y13.2.2.2.2.2.1<(IntKind.wrap .i64 (y13.2.2.2.2.2.2.1-y13.2.2.2.2.2.2.2.1))))) (
 tif ((decide ((IntKind.wrap .i64 (y13.2.2.2.2.2.2.1-y13.2.2.2.2.2.2.2.1))<y13.2.2.2.1))) (
 a0a (b0t n r14 y13.2.2.2.2.2.1 (IntKind.wrap .i64 (y13.2.2.2.2.2.2.1-y13.2.2.2.2.2.2.2.1)) y13.2.2.2.1 y13.2.2.2.2.1) fun r18 =>
 some r18) (
 some r14)) (
 some r14))) (
 tif ((decide (y13.2.1<y13.2.2.2.2.2.2.2.1))) (
 tif ((decide (y13.2.2.2.2.2.2.2.1<y13.2.2.2.2.2.1))) (
 a0a (b0t n y13.1 y13.2.1 y13.2.2.2.2.2.2.2.1 y13.2.2.2.2.2.1 y13.2.2.2.2.1) fun r19 =>
 tif ((decide (y13.2.2.2.2.2.1<(IntKind.wrap .i64 (y13.2.2.2.2.2.2.1-y13.2.2.2.2.2.2.2.1))))) (
 tif ((decide ((IntKind.wrap .i64 (y13.2.2.2.2.2.2.1-y13.2.2.2.2.2.2.2.1))<y13.2.2.2.1))) (
 a0a (b0t n r19 y13.2.2.2.2.2.1 (IntKind.wrap .i64 (y13.2.2.2.2.2.2.1-y13.2.2.2.2.2.2.2.1)) y13.2.2.2.1 y13.2.2.2.2.1) fun r20 =>
 some r20) (
 some r19)) (
 some r19)) (
 tif ((decide (y13.2.2.2.2.2.1<(IntKind.wrap .i64 (y13.2.2.2.2.2.2.1-y13.2.2.2.2.2.2.2.1))))) (
 tif ((decide ((IntKind.wrap .i64 (y13.2.2.2.2.2.2.1-y13.2.2.2.2.2.2.2.1))<y13.2.2.2.1))) (
 a0a (b0t n y13.1 y13.2.2.2.2.2.1 (IntKind.wrap .i64 (y13.2.2.2.2.2.2.1-y13.2.2.2.2.2.2.2.1)) y13.2.2.2.1 y13.2.2.2.2.1) fun r21 =>
 some r21) (
 some y13.1)) (
 some y13.1))) (
 tif ((decide (y13.2.2.2.2.2.1<(IntKind.wrap .i64 (y13.2.2.2.2.2.2.1-y13.2.2.2.2.2.2.2.1))))) (
 tif ((decide ((IntKind.wrap .i64 (y13.2.2.2.2.2.2.1-y13.2.2.2.2.2.2.2.1))<y13.2.2.2.1))) (
 a0a (b0t n y13.1 y13.2.2.2.2.2.1 (IntKind.wrap .i64 (y13.2.2.2.2.2.2.1-y13.2.2.2.2.2.2.2.1)) y13.2.2.2.1 y13.2.2.2.2.1) fun r22 =>
 some r22) (
 some y13.1)) (
 some y13.1)))) (
 tif ((decide (y13.2.1<y13.2.2.2.2.2.2.2.1))) (
 tif ((decide (y13.2.2.2.2.2.2.2.1<y13.2.2.2.2.2.1))) (
 a0a (b0t n y13.1 y13.2.1 y13.2.2.2.2.2.2.2.1 y13.2.2.2.2.2.1 y13.2.2.2.2.1) fun r23 =>
 tif ((decide (y13.2.2.2.2.2.1<(IntKind.wrap .i64 (y13.2.2.2.2.2.2.1-y13.2.2.2.2.2.2.2.1))))) (
 tif ((decide ((IntKind.wrap .i64 (y13.2.2.2.2.2.2.1-y13.2.2.2.2.2.2.2.1))<y13.2.2.2.1))) (
 a0a (b0t n r23 y13.2.2.2.2.2.1 (IntKind.wrap .i64 (y13.2.2.2.2.2.2.1-y13.2.2.2.2.2.2.2.1)) y13.2.2.2.1 y13.2.2.2.2.1) fun r24 =>
 some r24) (
 some r23)) (
 some r23)) (
 tif ((decide (y13.2.2.2.2.2.1<(IntKind.wrap .i64 (y13.2.2.2.2.2.2.1-y13.2.2.2.2.2.2.2.1))))) (
 tif ((decide ((IntKind.wrap .i64 (y13.2.2.2.2.2.2.1-y13.2.2.2.2.2.2.2.1))<y13.2.2.2.1))) (
 a0a (b0t n y13.1 y13.2.2.2.2.2.1 (IntKind.wrap .i64 (y13.2.2.2.2.2.2.1-y13.2.2.2.2.2.2.2.1)) y13.2.2.2.1 y13.2.2.2.2.1) fun r25 =>
 some r25) (
 some y13.1)) (
 some y13.1))) (
 tif ((decide (y13.2.2.2.2.2.1<(IntKind.wrap .i64 (y13.2.2.2.2.2.2.1-y13.2.2.2.2.2.2.2.1))))) (
 tif ((decide ((IntKind.wrap .i64 (y13.2.2.2.2.2.2.1-y13.2.2.2.2.2.2.2.1))<y13.2.2.2.1))) (
 a0a (b0t n y13.1 y13.2.2.2.2.2.1 (IntKind.wrap .i64 (y13.2.2.2.2.2.2.1-y13.2.2.2.2.2.2.2.1)) y13.2.2.2.1 y13.2.2.2.2.1) fun r26 =>
 some r26) (
 some y13.1)) (
 some y13.1)))) (fun z27 =>
 some z27) r12) (
 a0a (j0t n a0b (data,(a,(m,(b,(cmp,((IntKind.wrap .i64 (shrI .u64 (IntKind.wrap .u64 (IntKind.wrap .i64 (a+b))) (1:Int))),((IntKind.wrap .i64 ((IntKind.wrap .i64 (shrI .u64 (IntKind.wrap .u64 (IntKind.wrap .i64 (a+b))) (1:Int)))+m)),(a,(m,((IntKind.wrap .i64 ((IntKind.wrap .i64 ((IntKind.wrap .i64 (shrI .u64 (IntKind.wrap .u64 (IntKind.wrap .i64 (a+b))) (1:Int)))+m))-1)),()))))))))))) fun r28 =>
 b0m (fun y29 =>
 tif ((decide (y29.2.2.2.2.2.2.2.1<y29.2.2.1))) (
 tif ((decide (y29.2.2.1<(IntKind.wrap .i64 (y29.2.2.2.2.2.2.1-y29.2.2.2.2.2.2.2.1))))) (
 a0a (e1n n y29.1 y29.2.2.2.2.2.2.2.1 y29.2.2.1 (IntKind.wrap .i64 (y29.2.2.2.2.2.2.1-y29.2.2.2.2.2.2.2.1)) y29.2.2.2.2.1) fun r30 =>
 tif ((decide (y29.2.1<y29.2.2.2.2.2.2.2.1))) (
 tif ((decide (y29.2.2.2.2.2.2.2.1<y29.2.2.2.2.2.1))) (
 a0a (b0t n r30 y29.2.1 y29.2.2.2.2.2.2.2.1 y29.2.2.2.2.2.1 y29.2.2.2.2.1) fun r31 =>
 tif ((decide (y29.2.2.2.2.2.1<(IntKind.wrap .i64 (y29.2.2.2.2.2.2.1-y29.2.2.2.2.2.2.2.1))))) (
 tif ((decide ((IntKind.wrap .i64 (y29.2.2.2.2.2.2.1-y29.2.2.2.2.2.2.2.1))<y29.2.2.2.1))) (
 a0a (b0t n r31 y29.2.2.2.2.2.1 (IntKind.wrap .i64 (y29.2.2.2.2.2.2.1-y29.2.2.2.2.2.2.2.1)) y29.2.2.2.1 y29.2.2.2.2.1) fun r32 =>
 some r32) (
 some r31)) (
 some r31)) (
 tif ((decide (y29.2.2.2.2.2.1<(IntKind.wrap .i64 (y29.2.2.2.2.2.2.1-y29.2.2.2.2.2.2.2.1))))) (
 tif ((decide ((IntKind.wrap .i64 (y29.2.2.2.2.2.2.1-y29.2.2.2.2.2.2.2.1))<y29.2.2.2.1))) (
 a0a (b0t n r30 y29.2.2.2.2.2.1 (IntKind.wrap .i64 (y29.2.2.2.2.2.2.1-y29.2.2.2.2.2.2.2.1)) y29.2.2.2.1 y29.2.2.2.2.1) fun r33 =>
 some r33) (
 some r30)) (
 some r30))) (
 tif ((decide (y29.2.2.2.2.2.1<(IntKind.wrap .i64 (y29.2.2.2.2.2.2.1-y29.2.2.2.2.2.2.2.1))))) (
 tif ((decide ((IntKind.wrap .i64 (y29.2.2.2.2.2.2.1-y29.2.2.2.2.2.2.2.1))<y29.2.2.2.1))) (
 a0a (b0t n r30 y29.2.2.2.2.2.1 (IntKind.wrap .i64 (y29.2.2.2.2.2.2.1-y29.2.2.2.2.2.2.2.1)) y29.2.2.2.1 y29.2.2.2.2.1) fun r34 =>
 some r34) (
 some r30)) (
 some r30))) (
 tif ((decide (y29.2.1<y29.2.2.2.2.2.2.2.1))) (
 tif ((decide (y29.2.2.2.2.2.2.2.1<y29.2.2.2.2.2.1))) (
 a0a (b0t n y29.1 y29.2.1 y29.2.2.2.2.2.2.2.1 y29.2.2.2.2.2.1 y29.2.2.2.2.1) fun r35 =>
 tif ((decide (y29.2.2.2.2.2.1<(IntKind.wrap .i64 (y29.2.2.2.2.2.2.1-y29.2.2.2.2.2.2.2.1))))) (
 tif ((decide ((IntKind.wrap .i64 (y29.2.2.2.2.2.2.1-y29.2.2.2.2.2.2.2.1))<y29.2.2.2.1))) (
 a0a (b0t n r35 y29.2.2.2.2.2.1 (IntKind.wrap .i64 (y29.2.2.2.2.2.2.1-y29.2.2.2.2.2.2.2.1)) y29.2.2.2.1 y29.2.2.2.2.1) fun r36 =>
 some r36) (
 some r35)) (
 some r35)) (
 tif ((decide (y29.2.2.2.2.2.1<(IntKind.wrap .i64 (y29.2.2.2.2.2.2.1-y29.2.2.2.2.2.2.2.1))))) (
 tif ((decide ((IntKind.wrap .i64 (y29.2.2.2.2.2.2.1-y29.2.2.2.2.2.2.2.1))<y29.2.2.2.1))) (
 a0a (b0t n y29.1 y29.2.2.2.2.2.1 (IntKind.wrap .i64 (y29.2.2.2.2.2.2.1-y29.2.2.2.2.2.2.2.1)) y29.2.2.2.1 y29.2.2.2.2.1) fun r37 =>
 some r37) (
 some y29.1)) (
 some y29.1))) (
 tif ((decide (y29.2.2.2.2.2.1<(IntKind.wrap .i64 (y29.2.2.2.2.2.2.1-y29.2.2.2.2.2.2.2.1))))) (
 tif ((decide ((IntKind.wrap .i64 (y29.2.2.2.2.2.2.1-y29.2.2.2.2.2.2.2.1))<y29.2.2.2.1))) (
 a0a (b0t n y29.1 y29.2.2.2.2.2.1 (IntKind.wrap .i64 (y29.2.2.2.2.2.2.1-y29.2.2.2.2.2.2.2.1)) y29.2.2.2.1 y29.2.2.2.2.1) fun r38 =>
 some r38) (
 some y29.1)) (
 some y29.1)))) (
 tif ((decide (y29.2.1<y29.2.2.2.2.2.2.2.1))) (
 tif ((decide (y29.2.2.2.2.2.2.2.1<y29.2.2.2.2.2.1))) (
 a0a (b0t n y29.1 y29.2.1 y29.2.2.2.2.2.2.2.1 y29.2.2.2.2.2.1 y29.2.2.2.2.1) fun r39 =>
 tif ((decide (y29.2.2.2.2.2.1<(IntKind.wrap .i64 (y29.2.2.2.2.2.2.1-y29.2.2.2.2.2.2.2.1))))) (
 tif ((decide ((IntKind.wrap .i64 (y29.2.2.2.2.2.2.1-y29.2.2.2.2.2.2.2.1))<y29.2.2.2.1))) (
 a0a (b0t n r39 y29.2.2.2.2.2.1 (IntKind.wrap .i64 (y29.2.2.2.2.2.2.1-y29.2.2.2.2.2.2.2.1)) y29.2.2.2.1 y29.2.2.2.2.1) fun r40 =>
 some r40) (
 some r39)) (
 some r39)) (
 tif ((decide (y29.2.2.2.2.2.1<(IntKind.wrap .i64 (y29.2.2.2.2.2.2.1-y29.2.2.2.2.2.2.2.1))))) (
 tif ((decide ((IntKind.wrap .i64 (y29.2.2.2.2.2.2.1-y29.2.2.2.2.2.2.2.1))<y29.2.2.2.1))) (
 a0a (b0t n y29.1 y29.2.2.2.2.2.1 (IntKind.wrap .i64 (y29.2.2.2.2.2.2.1-y29.2.2.2.2.2.2.2.1)) y29.2.2.2.1 y29.2.2.2.2.1) fun r41 =>
 some r41) (
 some y29.1)) (
 some y29.1))) (
 tif ((decide (y29.2.2.2.2.2.1<(IntKind.wrap .i64 (y29.2.2.2.2.2.2.1-y29.2.2.2.2.2.2.2.1))))) (
 tif ((decide ((IntKind.wrap .i64 (y29.2.2.2.2.2.2.1-y29.2.2.2.2.2.2.2.1))<y29.2.2.2.1))) (
 a0a (b0t n y29.1 y29.2.2.2.2.2.1 (IntKind.wrap .i64 (y29.2.2.2.2.2.2.1-y29.2.2.2.2.2.2.2.1)) y29.2.2.2.1 y29.2.2.2.2.1) fun r42 =>
 some r42) (
 some y29.1)) (
 some y29.1)))) (fun z43 =>
 some z43) r28))):=by kernel_rfl
theorem x0l (n f:Nat) (data:(List a0d)) (a:Int) (cmp:((a0d×(a0d×Unit))→Option Int)) (i:Int) (j:Int):p0h n (f+1) (data,a,cmp,i,j,()) =
 tif ((decide (i<j))) (
 a0a (at? data (IntKind.wrap .i64 (shrI .u64 (IntKind.wrap .u64 (IntKind.wrap .i64 (i+j))) (1:Int)))) fun r0 =>
 a0a ((data)[(Int.toNat (IntKind.wrap .i64 (shrI .u64 (IntKind.wrap .u64 (IntKind.wrap .i64 (i+j))) (1:Int))))]?) fun r1 =>
 a0a (at? data a) fun r2 =>
 a0a ((data)[(Int.toNat a)]?) fun r3 =>
 a0a (cmp (r1,(r3,()))) fun r4 =>
 tif ((decide (r4<0))) (
 p0h n f (data,(a,(cmp,((IntKind.wrap .i64 ((IntKind.wrap .i64 (shrI .u64 (IntKind.wrap .u64 (IntKind.wrap .i64 (i+j))) (1:Int)))+1)),(j,())))))) (
 p0h n f (data,(a,(cmp,(i,((IntKind.wrap .i64 (shrI .u64 (IntKind.wrap .u64 (IntKind.wrap .i64 (i+j))) (1:Int))),()))))))) (
 some (.inl (data,(a,(i,()))))):=by kernel_rfl
theorem x0k (n f:Nat) (data:(List a0d)) (i:Int) (k:Int):u0f n (f+1) (data,i,k,()) =
 tif ((decide (k<(IntKind.wrap .i64 (i-1))))) (
 a0a (at? data (IntKind.wrap .i64 (k+1))) fun r0 =>
 a0a ((data)[(Int.toNat (IntKind.wrap .i64 (k+1)))]?) fun r1 =>
 a0a (at? data k) fun r2 =>
 a0a ((data)[(Int.toNat k)]?) fun r3 =>
 a0a (at? data k) fun r4 =>
 a0a ((data)[(Int.toNat k)]?) fun r5 =>
 a0a (at? (List.set data (Int.toNat k) r1) (IntKind.wrap .i64 (k+1))) fun r6 =>
 a0a (((List.set data (Int.toNat k) r1))[(Int.toNat (IntKind.wrap .i64 (k+1)))]?) fun r7 =>
 u0f n f ((List.set (List.set data (Int.toNat k) r1) (Int.toNat (IntKind.wrap .i64 (k+1))) r3),(i,((IntKind.wrap .i64 (k+1)),())))) (
 some (.inl (data,()))):=by kernel_rfl
theorem v0j (n f:Nat) (data:(List a0d)) (m:Int) (cmp:((a0d×(a0d×Unit))→Option Int)) (i_:Int) (j_:Int):m0o n (f+1) (data,m,cmp,i_,j_,()) =
 tif ((decide (i_<j_))) (
 a0a (at? data m) fun r0 =>
 a0a ((data)[(Int.toNat m)]?) fun r1 =>
 a0a (at? data (IntKind.wrap .i64 (shrI .u64 (IntKind.wrap .u64 (IntKind.wrap .i64 (i_+j_))) (1:Int)))) fun r2 =>
 a0a ((data)[(Int.toNat (IntKind.wrap .i64 (shrI .u64 (IntKind.wrap .u64 (IntKind.wrap .i64 (i_+j_))) (1:Int))))]?) fun r3 =>
 a0a (cmp (r1,(r3,()))) fun r4 =>
 tif ((!(decide (r4<0)))) (
 m0o n f (data,(m,(cmp,((IntKind.wrap .i64 ((IntKind.wrap .i64 (shrI .u64 (IntKind.wrap .u64 (IntKind.wrap .i64 (i_+j_))) (1:Int)))+1)),(j_,())))))) (
 m0o n f (data,(m,(cmp,(i_,((IntKind.wrap .i64 (shrI .u64 (IntKind.wrap .u64 (IntKind.wrap .i64 (i_+j_))) (1:Int))),()))))))) (
 some (.inl (data,(m,(i_,()))))):=by kernel_rfl
theorem v0i (n f:Nat) (data:(List a0d)) (i_:Int) (k_:Int):q0p n (f+1) (data,i_,k_,()) =
 tif ((decide (i_<k_))) (
 a0a (at? data (IntKind.wrap .i64 (k_-1))) fun r0 =>
 a0a ((data)[(Int.toNat (IntKind.wrap .i64 (k_-1)))]?) fun r1 =>
 a0a (at? data k_) fun r2 =>
 a0a ((data)[(Int.toNat k_)]?) fun r3 =>
 a0a (at? data k_) fun r4 =>
 a0a ((data)[(Int.toNat k_)]?) fun r5 =>
 a0a (at? (List.set data (Int.toNat k_) r1) (IntKind.wrap .i64 (k_-1))) fun r6 =>
 a0a (((List.set data (Int.toNat k_) r1))[(Int.toNat (IntKind.wrap .i64 (k_-1)))]?) fun r7 =>
 q0p n f ((List.set (List.set data (Int.toNat k_) r1) (Int.toNat (IntKind.wrap .i64 (k_-1))) r3),(i_,((IntKind.wrap .i64 (k_-1)),())))) (
 some (.inl (data,()))):=by kernel_rfl
theorem v0h (n f:Nat) (data:(List a0d)) (a:Int) (m:Int) (b:Int) (cmp:((a0d×(a0d×Unit))→Option Int)) (mid:Int) (n_:Int) (start:Int) (r:Int) (p:Int):j0t n (f+1) (data,a,m,b,cmp,mid,n_,start,r,p,()) =
 tif ((decide (start<r))) (
 a0a (at? data (IntKind.wrap .i64 (p-(IntKind.wrap .i64 (shrI .u64 (IntKind.wrap .u64 (IntKind.wrap .i64 (start+r))) (1:Int)))))) fun r0 =>
 a0a ((data)[(Int.toNat (IntKind.wrap .i64 (p-(IntKind.wrap .i64 (shrI .u64 (IntKind.wrap .u64 (IntKind.wrap .i64 (start+r))) (1:Int))))))]?) fun r1 =>
 a0a (at? data (IntKind.wrap .i64 (shrI .u64 (IntKind.wrap .u64 (IntKind.wrap .i64 (start+r))) (1:Int)))) fun r2 =>
 a0a ((data)[(Int.toNat (IntKind.wrap .i64 (shrI .u64 (IntKind.wrap .u64 (IntKind.wrap .i64 (start+r))) (1:Int))))]?) fun r3 =>
 a0a (cmp (r1,(r3,()))) fun r4 =>
 tif ((!(decide (r4<0)))) (
 j0t n f (data,(a,(m,(b,(cmp,(mid,(n_,((IntKind.wrap .i64 ((IntKind.wrap .i64 (shrI .u64 (IntKind.wrap .u64 (IntKind.wrap .i64 (start+r))) (1:Int)))+1)),(r,(p,()))))))))))) (
 j0t n f (data,(a,(m,(b,(cmp,(mid,(n_,(start,((IntKind.wrap .i64 (shrI .u64 (IntKind.wrap .u64 (IntKind.wrap .i64 (start+r))) (1:Int))),(p,())))))))))))) (
 some (.inl (data,(a,(m,(b,(cmp,(mid,(n_,(start,())))))))))):=by kernel_rfl
theorem a2n (n:Nat) (data:(List a0d)) (a:Int) (m:Int) (b:Int) (cmp:((a0d×(a0d×Unit))→Option Int)):e1n (n+1) data a m b cmp =
 a0a (p0j n a0b (data,(m,(cmp,((IntKind.wrap .i64 (m-a)),((IntKind.wrap .i64 (b-m)),())))))) fun r0 =>
 b0m (fun y1 =>
 a0a (e1m n y1.1 (IntKind.wrap .i64 (y1.2.1-y1.2.2.2.1)) y1.2.1 y1.2.2.2.1 y1.2.2.1) fun r2 =>
 some r2) (fun z3 =>
 some z3) r0:=by kernel_rfl
theorem m1a (n f:Nat) (data:(List a0d)) (m:Int) (cmp:((a0d×(a0d×Unit))→Option Int)) (i:Int) (j:Int):p0j n (f+1) (data,m,cmp,i,j,()) =
 tif ((!(decide (i=j)))) (
 tif ((decide (j<i))) (
 a0a (e1m n data (IntKind.wrap .i64 (m-i)) m j cmp) fun r0 =>
 p0j n f (r0,(m,(cmp,((IntKind.wrap .i64 (i-j)),(j,())))))) (
 a0a (e1m n data (IntKind.wrap .i64 (m-i)) (IntKind.wrap .i64 ((IntKind.wrap .i64 (m+j))-i)) i cmp) fun r1 =>
 p0j n f (r1,(m,(cmp,(i,((IntKind.wrap .i64 (j-i)),()))))))) (
 some (.inl (data,(m,(cmp,(i,())))))):=by kernel_rfl
theorem a2l (n:Nat) (data:(List a0d)) (a:Int) (b:Int) (n_:Int) (cmp:((a0d×(a0d×Unit))→Option Int)):e1m (n+1) data a b n_ cmp =
 a0a (u0g n a0b (data,(a,(b,(n_,(0,())))))) fun r0 =>
 b0m (fun y1 =>
 some y1.1) (fun z2 =>
 some z2) r0:=by kernel_rfl
theorem x0m (n f:Nat) (data:(List a0d)) (a:Int) (b:Int) (n_:Int) (i:Int):u0g n (f+1) (data,a,b,n_,i,()) =
 tif ((decide (i<n_))) (
 a0a (at? data (IntKind.wrap .i64 (b+i))) fun r0 =>
 a0a ((data)[(Int.toNat (IntKind.wrap .i64 (b+i)))]?) fun r1 =>
 a0a (at? data (IntKind.wrap .i64 (a+i))) fun r2 =>
 a0a ((data)[(Int.toNat (IntKind.wrap .i64 (a+i)))]?) fun r3 =>
 a0a (at? data (IntKind.wrap .i64 (a+i))) fun r4 =>
 a0a ((data)[(Int.toNat (IntKind.wrap .i64 (a+i)))]?) fun r5 =>
 a0a (at? (List.set data (Int.toNat (IntKind.wrap .i64 (a+i))) r1) (IntKind.wrap .i64 (b+i))) fun r6 =>
 a0a (((List.set data (Int.toNat (IntKind.wrap .i64 (a+i))) r1))[(Int.toNat (IntKind.wrap .i64 (b+i)))]?) fun r7 =>
 u0g n f ((List.set (List.set data (Int.toNat (IntKind.wrap .i64 (a+i))) r1) (Int.toNat (IntKind.wrap .i64 (b+i))) r3),(a,(b,(n_,((IntKind.wrap .i64 (i+1)),())))))) (
 some (.inl (data,()))):=by kernel_rfl
theorem x0t (n:Nat) (x0:List (List UInt8)) (x1:Int):m0r (n+1) x0 x1=i0p x0 x1:=by
    have h:m0r (n+1) x0 x1=Option.bind (i0p x0 x1) (fun z=>some z):=by kernel_rfl
    rw[h];cases i0p x0 x1<;>rfl
theorem a1d (n:Nat) (x0:List (a0j)) (x1:Int):p0a (n+1) x0 x1=i0p x0 x1:=by
    have h:p0a (n+1) x0 x1=Option.bind (i0p x0 x1) (fun z=>some z):=by kernel_rfl
    rw[h];cases i0p x0 x1<;>rfl
theorem k0q (n:Nat) (x0:List UInt8) (x1:List UInt8):a0p (n+1) x0 x1=g0q x0 x1:=by
    have h:a0p (n+1) x0 x1=Option.bind (g0q x0 x1) (fun z=>some z):=by kernel_rfl
    rw[h];cases g0q x0 x1<;>rfl
theorem c0j (n:Nat) (x0:List UInt8):b0o (n+1) x0=some (x0,x0):=by kernel_rfl
theorem c1t (n:Nat) (x0:List (a0d)) (x1:Int):q0t (n+1) x0 x1=i0p x0 x1:=by
    have h:q0t (n+1) x0 x1=Option.bind (i0p x0 x1) (fun z=>some z):=by kernel_rfl
    rw[h];cases i0p x0 x1<;>rfl
theorem i0v (n:Nat) (x0:List UInt8) (x1:Int):b0z (n+1) x0 x1=s1s x0 x1:=by
    have h:b0z (n+1) x0 x1=Option.bind (s1s x0 x1) (fun z=>some z):=by kernel_rfl
    rw[h];cases s1s x0 x1<;>rfl
theorem e0f (n:Nat) (x0:List UInt8):f0n (n+1) x0=some ((x0.length:Int),x0):=by kernel_rfl
end Go.Proofs.YtagnkfbpgkckiaaGreat
