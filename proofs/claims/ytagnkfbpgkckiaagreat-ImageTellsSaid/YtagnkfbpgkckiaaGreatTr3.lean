/- Trees, printed by program. -/
import Derived.Test.YtagnkfbpgkckiaaGreatTr0
import Derived.KernelRfl
set_option linter.unusedVariables false
namespace Go.Proofs.YtagnkfbpgkckiaaGreat
open Go.Flat
theorem q1k (n:Nat) (s:b0f):y0c (n+1) s =
 a0a (g0l n s.1) fun r0 =>
 tif ((decide (r0=0))) (
 some (decide ((((List.length s.2.2.2):Nat):Int)=s.1.2.2.2.1))) (
 some false):=by kernel_rfl
theorem v1f (n:Nat) (t:Int):y0d (n+1) t =
 tif ((decide ((0:Int)≤t))) (
 some (decide (t<35184372088832))) (
 some false):=by kernel_rfl
theorem v1g (n:Nat) (s:b0f):y0g (n+1) s =
 a0a (y0c n s) fun r0 =>
 tif ((!r0)) (
 some (0:Int)) (
 a0a (y0d n s.2.1) fun r1 =>
 tif ((!r1)) (
 some (0:Int)) (
 tif ((decide (s.1.2.1.1=0))) (
 none) (
 some (IntKind.wrap .i64 ((IntKind.wrap .i64 (Int.tdiv s.2.1 s.1.2.1.1))*s.1.2.1.1))))):=by kernel_rfl
theorem q1l (n:Nat) (s:b0f) (i:Int):y0f (n+1) s i =
 a0a (at? s.2.2.2 i) fun r0 =>
 a0a (s0x n r0) fun r1 =>
 tif ((!r1)) (
 tif ((decide (s.2.2.1=((-1):Int)))) (
 some true) (
 a0a (at? s.2.2.2 i) fun r2 =>
 a0a (m1j n s.1 r2.2.1 s.2.2.1) fun r3 =>
 some (!r3))) (
 some false):=by kernel_rfl
theorem v1v (n:Nat) (a:(List (List UInt8×List UInt8))) (b:(List (List UInt8×List UInt8))):d1i (n+1) a b =
 tif ((!(decide ((((List.length a):Nat):Int)=(((List.length b):Nat):Int))))) (
 some false) (
 a0a (m0y n a0b (a,(b,((((List.length a):Nat):Int),(0,()))))) fun r0 =>
 b0m (fun y1 =>
 some true) (fun z2 =>
 some z2) r0):=by kernel_rfl
theorem k0h (n f:Nat) (a:(List (List UInt8×List UInt8))) (b:(List (List UInt8×List UInt8))) (s12:Int) (s13:Int):m0y n (f+1) (a,b,s12,s13,()) =
 tif ((decide (s13<s12))) (
 a0a (at? a s13) fun r0 =>
 a0a (at? b s13) fun r1 =>
 tif ((!((r0.1==r1.1)&&(r0.2==r1.2)))) (
 some (.inr false)) (
 m0y n f (a,(b,(s12,((IntKind.wrap .i64 (s13+1)),())))))) (
 some (.inl ())):=by kernel_rfl
theorem j1h (n:Nat) (n_:Int) (low:Int) (high:Int):g0s (n+1) n_ low high =
 tif ((decide (low≤n_))) (
 some (decide (n_≤high))) (
 some false):=by kernel_rfl
theorem c1x (n:Nat) (n_:Int) (low:Int) (high:Int):j0k (n+1) n_ low high =
 tif ((decide (low≤n_))) (
 some (decide (n_≤high))) (
 some false):=by kernel_rfl
theorem s0e (n:Nat) (x:Int) (y:Int):r0j (n+1) x y =
 a0a (g0m n x y) fun r0 =>
 some r0:=by kernel_rfl
theorem i1e (n:Nat) (c:a0z) (s:a0l):w0a (n+1) c s =
 a0a (b1b n c s.2.2.2.1) fun r0 =>
 tif ((!(decide (r0=0)))) (
 some (none,2)) (
 a0a (n0f n s.1) fun r1 =>
 tif ((!(decide (r1=0)))) (
 some (none,2)) (
 a0a (e1y n s.2.2.1 c.1) fun r2 =>
 tif ((!(decide (r2=0)))) (
 some (none,2)) (
 tif ((decide (s.2.1=((-1):Int)))) (
 a0a (e1k n (c,s)) fun r3 =>
 tif (r3) (
 some ((some (c,s)),0)) (
 tif ((!(decide (s.2.1=((-1):Int))))) (
 a0a (d1d n (c,s)) fun r4 =>
 tif (r4) (
 some ((some (c,s)),0)) (
 some (none,2))) (
 some (none,2)))) (
 tif ((!(decide (s.2.1=((-1):Int))))) (
 a0a (d1d n (c,s)) fun r5 =>
 tif (r5) (
 some ((some (c,s)),0)) (
 some (none,2))) (
 some (none,2)))))):=by kernel_rfl
theorem i1s (n:Nat) (l:(List (List UInt8×List UInt8))):w0g (n+1) l =
 a0a (n0f n l) fun r0 =>
 tif ((!(decide (r0=0)))) (
 some ([],r0)) (
 a0a (h0b n [] (IntKind.wrap .u64 (((List.length l):Nat):Int))) fun r1 =>
 a0a (k0j n a0b (r1,(l,((((List.length l):Nat):Int),(0,()))))) fun r2 =>
 b0m (fun y3 =>
 a0a (c0z n y3.1) fun r4 =>
 some (r4.1,0)) (fun z5 =>
 some z5) r2):=by kernel_rfl
theorem p0v (n f:Nat) (w:(List Int)) (s17:(List (List UInt8×List UInt8))) (s18:Int) (s19:Int):k0j n (f+1) (w,s17,s18,s19,()) =
 tif ((decide (s19<s18))) (
 a0a (at? s17 s19) fun r0 =>
 a0a (h0d n w r0.1) fun r1 =>
 a0a (h0d n r1 r0.2) fun r2 =>
 k0j n f (r2,(s17,(s18,((IntKind.wrap .i64 (s19+1)),()))))) (
 some (.inl (w,()))):=by kernel_rfl
theorem q1u (n:Nat) (c:a0z):y0m (n+1) c =
 a0a (p0o n c.1 (16:Int)) fun r0 =>
 a0a (p0o n c.2.2.1.1 (4:Int)) fun r1 =>
 a0a (p0o n c.2.2.1.2.1 (4:Int)) fun r2 =>
 a0a (p0o n c.2.2.1.2.2 (4:Int)) fun r3 =>
 some (IntKind.wrap .i64 ((IntKind.wrap .i64 ((IntKind.wrap .i64 ((IntKind.wrap .i64 ((1:Int)+r0))+r1))+r2))+r3)):=by kernel_rfl
theorem r1g (n:Nat) (l:(List (List UInt8×List UInt8))):y0p (n+1) l =
 tif ((decide ((((List.length l):Nat):Int)<1))) (
 some (8:Int)) (
 tif ((decide ((16:Int)<(((List.length l):Nat):Int)))) (
 some (8:Int)) (
 a0a (i0o n a0b (l,(0,(l,((((List.length l):Nat):Int),(0,())))))) fun r0 =>
 b0m (fun y1 =>
 tif ((decide ((256:Int)<y1.1))) (
 some (8:Int)) (
 some (0:Int))) (fun z2 =>
 some z2) r0)):=by kernel_rfl
theorem t0g (n f:Nat) (l:(List (List UInt8×List UInt8))) (all:Int) (s14:(List (List UInt8×List UInt8))) (s15:Int) (s16:Int):i0o n (f+1) (l,all,s14,s15,s16,()) =
 tif ((decide (s16<s15))) (
 a0a (at? s14 s16) fun r0 =>
 a0a (m1o n r0.1) fun r1 =>
 tif ((!r1)) (
 some (.inr (8:Int))) (
 tif ((decide ((128:Int)<(((List.length r0.2):Nat):Int)))) (
 some (.inr (8:Int))) (
 tif ((decide ((0:Int)<s16))) (
 a0a (at? l (IntKind.wrap .i64 (s16-1))) fun r2 =>
 tif ((!(Go.Op.bytesLess r2.1 r0.1))) (
 some (.inr (8:Int))) (
 i0o n f (l,((IntKind.wrap .i64 (all+(IntKind.wrap .i64 ((((List.length r0.1):Nat):Int)+(((List.length r0.2):Nat):Int))))),(s14,(s15,((IntKind.wrap .i64 (s16+1)),()))))))) (
 i0o n f (l,((IntKind.wrap .i64 (all+(IntKind.wrap .i64 ((((List.length r0.1):Nat):Int)+(((List.length r0.2):Nat):Int))))),(s14,(s15,((IntKind.wrap .i64 (s16+1)),()))))))))) (
 some (.inl (all,()))):=by kernel_rfl
theorem q1t (n:Nat) (r:(Int×(Int×(List a0j)))) (room:Int):f1f (n+1) r room =
 tif ((decide (room<1))) (
 some (2:Int)) (
 tif ((decide ((4096:Int)<room))) (
 some (2:Int)) (
 tif ((decide (room<(((List.length r.2.2):Nat):Int)))) (
 some (2:Int)) (
 tif ((decide (r.1<0))) (
 some (2:Int)) (
 tif ((decide ((70368744177664:Int)<r.1))) (
 some (2:Int)) (
 a0a (i0n n a0b (room,(r,(r.2.2,((((List.length r.2.2):Nat):Int),(0,())))))) fun r0 =>
 b0m (fun y1 =>
 tif ((decide (y1.2.1.1=0))) (
 tif ((!(decide (y1.2.1.2.1=0)))) (
 some (2:Int)) (
 some (0:Int))) (
 tif ((decide (y1.2.1.2.1<0))) (
 some (2:Int)) (
 tif ((decide ((35184372088832:Int)≤y1.2.1.2.1))) (
 some (2:Int)) (
 tif ((!(decide ((((List.length y1.2.1.2.2):Nat):Int)=y1.1)))) (
 some (2:Int)) (
 a0a (at? y1.2.1.2.2 (0:Int)) fun r2 =>
 tif ((decide (r2.1≤y1.2.1.2.1))) (
 some (2:Int)) (
 some (0:Int))))))) (fun z3 =>
 some z3) r0))))):=by kernel_rfl
theorem t0d (n f:Nat) (room:Int) (r_:(Int×(Int×(List a0j)))) (s31:(List a0j)) (s32:Int) (s33:Int):i0n n (f+1) (room,r_,s31,s32,s33,()) =
 tif ((decide (s33<s32))) (
 a0a (at? s31 s33) fun r0 =>
 a0a (t0f n r0) fun r1 =>
 tif ((!(decide (r1=0)))) (
 some (.inr (2:Int))) (
 tif ((decide ((0:Int)<s33))) (
 a0a (at? r_.2.2 (IntKind.wrap .i64 (s33-1))) fun r2 =>
 tif ((decide (r0.1≤r2.1))) (
 some (.inr (2:Int))) (
 i0n n f (room,(r_,(s31,(s32,((IntKind.wrap .i64 (s33+1)),()))))))) (
 i0n n f (room,(r_,(s31,(s32,((IntKind.wrap .i64 (s33+1)),())))))))) (
 some (.inl (room,(r_,())))):=by kernel_rfl
theorem q1r (n:Nat) (c:a0z) (s:((List a0d)×((List a0d)×(List a0d)))):f1c (n+1) c s =
 a0a (g0l n c) fun r0 =>
 tif ((!(decide (r0=0)))) (
 some (2:Int)) (
 tif ((!(decide ((((List.length s.1):Nat):Int)=c.2.2.1.1)))) (
 some (2:Int)) (
 a0a (t0a n s.1 c.2.1.1) fun r1 =>
 tif ((!(decide (r1=0)))) (
 some (2:Int)) (
 tif ((!(decide ((((List.length s.2.1):Nat):Int)=c.2.2.1.2.1)))) (
 some (2:Int)) (
 a0a (t0a n s.2.1 c.2.1.2.1) fun r2 =>
 tif ((!(decide (r2=0)))) (
 some (2:Int)) (
 tif ((!(decide ((((List.length s.2.2):Nat):Int)=c.2.2.1.2.2)))) (
 some (2:Int)) (
 a0a (t0a n s.2.2 c.2.1.2.2) fun r3 =>
 tif ((!(decide (r3=0)))) (
 some (2:Int)) (
 some (0:Int)))))))):=by kernel_rfl
theorem a2z (n:Nat) (l:(List a0d)):t0b (n+1) l =
 a0a (p0n n a0b ([],(l,((((List.length l):Nat):Int),(0,()))))) fun r0 =>
 b0m (fun y1 =>
 some y1.1) (fun z2 =>
 some z2) r0:=by kernel_rfl
theorem y0l (n f:Nat) (out:(List a0d)) (s8:(List a0d)) (s9:Int) (s10:Int):p0n n (f+1) (out,s8,s9,s10,()) =
 tif ((decide (s10<s9))) (
 a0a (at? s8 s10) fun r0 =>
 tif (((decide (r0.1=0))&&((decide (r0.2.1=0))&&((decide (r0.2.2.1.1=0))&&((decide (r0.2.2.1.2.1=0))&&((decide (r0.2.2.1.2.2.1=0))&&((r0.2.2.1.2.2.2==false)&&((decide (r0.2.2.2.1.1=0))&&((decide (r0.2.2.2.1.2.1=0))&&((decide (r0.2.2.2.1.2.2.1=0))&&((r0.2.2.2.1.2.2.2==false)&&((decide (r0.2.2.2.2.1.1=0))&&((decide (r0.2.2.2.2.1.2=0))&&((decide (r0.2.2.2.2.2.1=0))&&((decide (r0.2.2.2.2.2.2.1=0))&&(decide (r0.2.2.2.2.2.2.2=0))))))))))))))))) (
 p0n n f (out,(s8,(s9,((IntKind.wrap .i64 (s10+1)),()))))) (
 a0a (u0p n a0b (out,(r0,((((List.length out):Nat):Int),(s8,(s9,(s10,()))))))) fun r1 =>
 b0m (fun y2 =>
 tif (((decide ((0:Int)≤y2.2.2.1))&&(decide (y2.2.2.1≤(((List.length y2.1):Nat):Int))))) (
 tif ((decide (((0+(List.length (List.take ((Int.toNat y2.2.2.1)-0) (List.drop 0 y2.1))))*120)≤140737488355328))) (
 tif ((decide ((((List.length ([]++(List.take ((Int.toNat y2.2.2.1)-0) (List.drop 0 y2.1))))+1)*120)≤140737488355328))) (
 tif ((decide ((0:Int)≤y2.2.2.1))) (
 tif ((decide ((Int.toNat y2.2.2.1)≤(List.length y2.1)))) (
 tif ((decide ((((List.length (([]++(List.take ((Int.toNat y2.2.2.1)-0) (List.drop 0 y2.1)))++(y2.2.1::[])))+(List.length (List.take ((List.length y2.1)-(Int.toNat y2.2.2.1)) (List.drop (Int.toNat y2.2.2.1) y2.1))))*120)≤140737488355328))) (
 p0n n f (((([]++(List.take ((Int.toNat y2.2.2.1)-0) (List.drop 0 y2.1)))++(y2.2.1::[]))++(List.take ((List.length y2.1)-(Int.toNat y2.2.2.1)) (List.drop (Int.toNat y2.2.2.1) y2.1))),(y2.2.2.2.1,(y2.2.2.2.2.1,((IntKind.wrap .i64 (y2.2.2.2.2.2.1+1)),()))))) (
 none)) (
 none)) (
 none)) (
 none)) (
 none)) (
 none)) (fun z3 =>
 some (.inr z3)) r1)) (
 some (.inl (out,()))):=by kernel_rfl
theorem y0k (n f:Nat) (out:(List a0d)) (s:a0d) (at_:Int) (s8:(List a0d)) (s9:Int) (s10:Int):u0p n (f+1) (out,s,at_,s8,s9,s10,()) =
 tif ((decide ((0:Int)<at_))) (
 a0a (at? out (IntKind.wrap .i64 (at_-1))) fun r0 =>
 a0a ((out)[(Int.toNat (IntKind.wrap .i64 (at_-1)))]?) fun r1 =>
 tif ((decide (s.1<r1.1))) (
 u0p n f (out,(s,((IntKind.wrap .i64 (at_-1)),(s8,(s9,(s10,()))))))) (
 some (.inl (out,(s,(at_,(s8,(s9,(s10,()))))))))) (
 some (.inl (out,(s,(at_,(s8,(s9,(s10,())))))))):=by kernel_rfl
theorem v1p (n:Nat) (r:(Int×(Int×(List a0j)))):m1k (n+1) r =
 tif ((decide ((((List.length r.2.2):Nat):Int)=0))) (
 some ((0,(0,(0,false))),3)) (
 a0a (at? r.2.2 (IntKind.wrap .i64 ((((List.length r.2.2):Nat):Int)-1))) fun r0 =>
 some (r0,0)):=by kernel_rfl
theorem v1m (n:Nat) (c:b1p) (w:Int) (i:Int):d1h (n+1) c w i =
 a0a (f1i n c) fun r0 =>
 tif ((!(decide (r0=0)))) (
 some false) (
 tif ((decide (c.1=0))) (
 some false) (
 a0a (k1k n c.2.1.1 w) fun r1 =>
 a0a (k1k n c.2.2.1.1 w) fun r2 =>
 tif ((decide (r1.2=0))) (
 tif ((decide (r2.2=0))) (
 tif ((decide (r1.1=i))) (
 some (decide (r2.1=i))) (
 some false)) (
 some false)) (
 some false))):=by kernel_rfl
theorem f1l (n:Nat) (n_:Int):u0q (n+1) n_ =
 tif ((decide (n_<128))) (
 some ((UInt8.ofNat (Int.toNat (IntKind.wrap .u8 n_)))::[])) (
 a0a (u0q n (IntKind.wrap .u64 (Int.tdiv n_ (128:Int)))) fun r0 =>
 tif ((decide ((1+(List.length r0))≤9223372036854775807))) (
 some (((UInt8.ofNat (Int.toNat (IntKind.wrap .u8 (IntKind.wrap .u64 ((Int.tmod n_ (128:Int))+128)))))::[])++r0)) (
 none)):=by kernel_rfl
theorem v1w (n:Nat) (s:List UInt8):d1j (n+1) s =
 a0a (u0q n (IntKind.wrap .u64 (((List.length s):Nat):Int))) fun r0 =>
 tif ((decide (((List.length r0)+(List.length s))≤9223372036854775807))) (
 some (r0++s)) (
 none):=by kernel_rfl
theorem c0w (n:Nat) (r:(List UInt8×Bool)):b0y (n+1) r =
 some ([],true):=by kernel_rfl
theorem i0i (n:Nat) (r:(List UInt8×Bool)) (n_:Int):d0q (n+1) r n_ =
 tif (r.2) (
 a0a (b0y n r) fun r0 =>
 some ([],r0)) (
 tif ((decide (n_<0))) (
 a0a (b0y n r) fun r1 =>
 some ([],r1)) (
 tif ((decide ((((List.length r.1):Nat):Int)<n_))) (
 a0a (b0y n r) fun r2 =>
 some ([],r2)) (
 tif (((decide ((0:Int)≤n_))&&(decide (n_≤(((List.length r.1):Nat):Int))))) (
 tif ((decide ((0:Int)≤n_))) (
 tif ((decide ((Int.toNat n_)≤(List.length r.1)))) (
 some ((List.drop 0 (List.take (Int.toNat n_) r.1)),((List.drop (Int.toNat n_) (List.take (List.length r.1) r.1)),r.2))) (
 none)) (
 none)) (
 none)))):=by kernel_rfl
theorem o0z (n:Nat) (s:(List (List UInt8))) (f_:((List UInt8×Unit)→Option Bool)):j0q (n+1) s f_ =
 a0a (m0p n s f_) fun r0 =>
 some (decide ((0:Int)≤r0)):=by kernel_rfl
theorem c1w (n:Nat) (s:List UInt8):l0w (n+1) s =
 some (!(decide ((((List.length s):Nat):Int)=512))):=by kernel_rfl
theorem w0k (n:Nat) (p:b0c) (n_:Int) (each:Int):c0l (n+1) p n_ each =
 tif ((decide (each=0))) (
 none) (
 tif (((decide ((0:Int)≤(if (((List.length p.2):Nat):Int)<(IntKind.wrap .i64 (Int.tdiv (IntKind.wrap .i64 ((IntKind.wrap .i64 (n_+each))-1)) each)) then (((List.length p.2):Nat):Int) else (IntKind.wrap .i64 (Int.tdiv (IntKind.wrap .i64 ((IntKind.wrap .i64 (n_+each))-1)) each)))))&&(decide ((if (((List.length p.2):Nat):Int)<(IntKind.wrap .i64 (Int.tdiv (IntKind.wrap .i64 ((IntKind.wrap .i64 (n_+each))-1)) each)) then (((List.length p.2):Nat):Int) else (IntKind.wrap .i64 (Int.tdiv (IntKind.wrap .i64 ((IntKind.wrap .i64 (n_+each))-1)) each)))≤(((List.length p.2):Nat):Int))))) (
 a0a (strings_Join n (List.drop 0 (List.take (Int.toNat (if (((List.length p.2):Nat):Int)<(IntKind.wrap .i64 (Int.tdiv (IntKind.wrap .i64 ((IntKind.wrap .i64 (n_+each))-1)) each)) then (((List.length p.2):Nat):Int) else (IntKind.wrap .i64 (Int.tdiv (IntKind.wrap .i64 ((IntKind.wrap .i64 (n_+each))-1)) each)))) p.2)) []) fun r0 =>
 tif ((decide ((0:Int)≤(if (((List.length p.2):Nat):Int)<(IntKind.wrap .i64 (Int.tdiv (IntKind.wrap .i64 ((IntKind.wrap .i64 (n_+each))-1)) each)) then (((List.length p.2):Nat):Int) else (IntKind.wrap .i64 (Int.tdiv (IntKind.wrap .i64 ((IntKind.wrap .i64 (n_+each))-1)) each)))))) (
 tif ((decide ((Int.toNat (if (((List.length p.2):Nat):Int)<(IntKind.wrap .i64 (Int.tdiv (IntKind.wrap .i64 ((IntKind.wrap .i64 (n_+each))-1)) each)) then (((List.length p.2):Nat):Int) else (IntKind.wrap .i64 (Int.tdiv (IntKind.wrap .i64 ((IntKind.wrap .i64 (n_+each))-1)) each))))≤(List.length p.2)))) (
 some (r0,(p.1,(List.drop (Int.toNat (if (((List.length p.2):Nat):Int)<(IntKind.wrap .i64 (Int.tdiv (IntKind.wrap .i64 ((IntKind.wrap .i64 (n_+each))-1)) each)) then (((List.length p.2):Nat):Int) else (IntKind.wrap .i64 (Int.tdiv (IntKind.wrap .i64 ((IntKind.wrap .i64 (n_+each))-1)) each)))) (List.take (List.length p.2) p.2))))) (
 none)) (
 none)) (
 none)):=by kernel_rfl
theorem g1b (n:Nat) (s:List UInt8):z0c (n+1) s =
 a0a (k0c n s) fun r0 =>
 a0a (d0f n r0) fun r1 =>
 a0a (n0e n a0b (r1.2,([],(r1.1,())))) fun r2 =>
 b0m (fun y3 =>
 a0a (i0f n y3.1) fun r4 =>
 tif (r4) (
 some ([],4)) (
 a0a (k0b n y3.1) fun r5 =>
 tif ((decide ((0:Int)<r5))) (
 some ([],4)) (
 a0a (n0f n y3.2.1) fun r6 =>
 tif ((!(decide (r6=0)))) (
 some ([],4)) (
 some (y3.2.1,0))))) (fun z7 =>
 some z7) r2:=by kernel_rfl
theorem k0i (n f:Nat) (r:(List UInt8×Bool)) (out:(List (List UInt8×List UInt8))) (n_:Int):n0e n (f+1) (r,out,n_,()) =
 tif ((decide ((0:Int)<n_))) (
 a0a (i0f n r) fun r0 =>
 tif ((!r0)) (
 tif ((decide ((((List.length out):Nat):Int)≤16))) (
 a0a (f0g n r (64:Int)) fun r1 =>
 a0a (f0g n r1.2 (128:Int)) fun r2 =>
 tif ((decide ((((List.length out)+1)*32)≤140737488355328))) (
 n0e n f (r2.2,((out++((r1.1,r2.1)::[])),((IntKind.wrap .u64 (n_-1)),())))) (
 none)) (
 some (.inl (r,(out,()))))) (
 some (.inl (r,(out,()))))) (
 some (.inl (r,(out,())))):=by kernel_rfl
theorem a1y (n:Nat) (s:List UInt8):k0l (n+1) s =
 a0a (k0c n s) fun r0 =>
 a0a (a0f n r0 (8:Int)) fun r1 =>
 a0a (a0f n r1.2 (8:Int)) fun r2 =>
 a0a (g0n n r2.2) fun r3 =>
 a0a (g0n n r3.2) fun r4 =>
 a0a (a0f n r4.2 (8:Int)) fun r5 =>
 a0a (a0f n r5.2 (8:Int)) fun r6 =>
 a0a (a0f n r6.2 (8:Int)) fun r7 =>
 a0a (a0f n r7.2 (8:Int)) fun r8 =>
 a0a (a0f n r8.2 (8:Int)) fun r9 =>
 some ((IntKind.wrap .i64 r1.1),((IntKind.wrap .i64 r2.1),(r3.1,(r4.1,((r5.1,r6.1),((IntKind.wrap .i64 r7.1),((IntKind.wrap .i64 r8.1),(IntKind.wrap .i64 r9.1)))))))):=by kernel_rfl
theorem z0i (n:Nat) (p:b0c) (r:(Int×(Int×(List a0j)))) (many:Int):n0h (n+1) p r many =
 a0a (c0l n p p.1.1 (16:Int)) fun r0 =>
 tif ((decide (r.1<0))) (
 some (r,r0.2)) (
 tif ((decide (r0.2.1.1<many))) (
 some (r,r0.2)) (
 a0a (e0r n a0b (r0.2,(r,((0,(0,[])),(r0.1,(r0.2.1.1,(many,(0,())))))))) fun r1 =>
 b0m (fun y2 =>
 some (y2.2.1,y2.1)) (fun z3 =>
 some z3) r1)):=by kernel_rfl
theorem k0y (n f:Nat) (p:b0c) (r_:(Int×(Int×(List a0j)))) (s6:(Int×(Int×(List a0j)))) (all:List UInt8) (room:Int) (s36:Int) (s37:Int):e0r n (f+1) (p,r_,s6,all,room,s36,s37,()) =
 tif ((decide (s37<s36))) (
 tif ((decide (room=0))) (
 none) (
 tif ((decide (room=0))) (
 none) (
 tif ((decide ((0:Int)≤(IntKind.wrap .i64 ((32:Int)*(Int.tmod (IntKind.wrap .i64 ((Int.tmod r_.1 room)+s37)) room)))))) (
 tif ((decide ((Int.toNat (IntKind.wrap .i64 ((32:Int)*(Int.tmod (IntKind.wrap .i64 ((Int.tmod r_.1 room)+s37)) room))))≤(List.length all)))) (
 a0a (k0c n (List.drop (Int.toNat (IntKind.wrap .i64 ((32:Int)*(Int.tmod (IntKind.wrap .i64 ((Int.tmod r_.1 room)+s37)) room)))) (List.take (List.length all) all))) fun r0 =>
 a0a (g0n n r0) fun r1 =>
 tif ((decide ((((List.length r_.2.2)+1)*32)≤140737488355328))) (
 e0r n f (p,((r_.1,(r_.2.1,(r_.2.2++(r1.1::[])))),(s6,(all,(room,(s36,((IntKind.wrap .i64 (s37+1)),())))))))) (
 none)) (
 none)) (
 none)))) (
 some (.inl (p,(r_,(s6,()))))):=by kernel_rfl
theorem w0j (n:Nat) (p:b0c) (n_:Int):f0x (n+1) p n_ =
 a0a (c0l n p n_ (4:Int)) fun r0 =>
 tif (((decide ((0:Int)≤n_))&&((decide (n_≤n_))&&(decide ((n_*120)≤140737488355328))))) (
 a0a (e0c n a0b (r0.2,(r0.1,((List.replicate (Int.toNat n_) ((0:Int),((0:Int),(((0:Int),((0:Int),((0:Int),false))),(((0:Int),((0:Int),((0:Int),false))),(((0:Int),(0:Int)),((0:Int),((0:Int),(0:Int))))))))),((((List.length (List.replicate (Int.toNat n_) ((0:Int),((0:Int),(((0:Int),((0:Int),((0:Int),false))),(((0:Int),((0:Int),((0:Int),false))),(((0:Int),(0:Int)),((0:Int),((0:Int),(0:Int)))))))))):Nat):Int),((0:Int),())))))) fun r1 =>
 b0m (fun y2 =>
 some (y2.2.1,y2.1)) (fun z3 =>
 some z3) r1) (
 none):=by kernel_rfl
theorem j0r (n f:Nat) (p:b0c) (all:List UInt8) (out:(List a0d)) (s14:Int) (s15:Int):e0c n (f+1) (p,all,out,s14,s15,()) =
 tif ((decide (s15<s14))) (
 tif ((decide ((0:Int)≤(IntKind.wrap .i64 ((128:Int)*s15))))) (
 tif ((decide ((Int.toNat (IntKind.wrap .i64 ((128:Int)*s15)))≤(List.length all)))) (
 a0a (k0l n (List.drop (Int.toNat (IntKind.wrap .i64 ((128:Int)*s15))) (List.take (List.length all) all))) fun r0 =>
 a0a (at? out s15) fun r1 =>
 a0a ((out)[(Int.toNat s15)]?) fun r2 =>
 e0c n f (p,(all,((List.set out (Int.toNat s15) r0),(s14,((IntKind.wrap .i64 (s15+1)),())))))) (
 none)) (
 none)) (
 some (.inl (p,(out,())))):=by kernel_rfl
theorem v1o (n:Nat) (a:(Int×(Int×(List a0j)))) (b:(Int×(Int×(List a0j)))):y1d (n+1) a b =
 tif ((decide (a.1=b.1))) (
 tif ((decide (a.2.1=b.2.1))) (
 a0a (t0c n a.2.2 b.2.2) fun r0 =>
 some r0) (
 some false)) (
 some false):=by kernel_rfl
theorem v1j (n:Nat) (a:((List a0d)×((List a0d)×(List a0d)))) (b:((List a0d)×((List a0d)×(List a0d)))):y1b (n+1) a b =
 a0a (y0j n a.1 b.1) fun r0 =>
 tif ((!r0)) (
 some false) (
 a0a (y0j n a.2.1 b.2.1) fun r1 =>
 tif ((!r1)) (
 some false) (
 a0a (y0j n a.2.2 b.2.2) fun r2 =>
 tif ((!r2)) (
 some false) (
 some true))):=by kernel_rfl
theorem u1i (n:Nat) (t:Int):d1c (n+1) t =
 tif ((decide ((0:Int)≤t))) (
 some (decide (t<35184372088832))) (
 some false):=by kernel_rfl
theorem p1o (n:Nat) (s:a0l):x0h (n+1) s =
 a0a (e0b n s ([],(0,((0,(0,[])),(([],([],[])),(0,(0,((0,(0,(0,false))),((0,(0,(0,false))),((0,0),(0,(0,0)))))))))))) fun r0 =>
 some r0:=by kernel_rfl
theorem c1q (n:Nat) (v:b0f):q0o (n+1) v =
 tif ((decide (v.1.2.1.1=0))) (
 none) (
 some (IntKind.wrap .i64 (v.2.1-(Int.tmod v.2.1 v.1.2.1.1)))):=by kernel_rfl
theorem c1p (n:Nat) (v:b0f) (i:Int):q0m (n+1) v i =
 a0a (h0w n v (fun y0=>g0j n y0.1 i v)) fun r1 =>
 tif ((decide (r1<i))) (
 a0a (k0g n v i) fun r2 =>
 some r2) (
 some false):=by kernel_rfl
theorem u1z (n:Nat) (a:(Int×(Int×(List a0j)))) (b:(Int×(Int×(List a0j)))):y1a (n+1) a b =
 tif ((decide (a.1=b.1))) (
 tif ((decide (a.2.1=b.2.1))) (
 a0a (o0y n a.2.2 b.2.2) fun r0 =>
 some r0) (
 some false)) (
 some false):=by kernel_rfl
theorem c1r (n:Nat) (s1:(List a0d)) (s2:(List a0d)):i0z (n+1) s1 s2 =
 tif ((!(decide ((((List.length s1):Nat):Int)=(((List.length s2):Nat):Int))))) (
 some false) (
 a0a (i0a n a0b (s1,(s2,((((List.length s1):Nat):Int),(0,()))))) fun r0 =>
 b0m (fun y1 =>
 some true) (fun z2 =>
 some z2) r0):=by kernel_rfl
theorem m0q (n f:Nat) (s1:(List a0d)) (s2:(List a0d)) (s12:Int) (s13:Int):i0a n (f+1) (s1,s2,s12,s13,()) =
 tif ((decide (s13<s12))) (
 a0a (at? s1 s13) fun r0 =>
 a0a (at? s2 s13) fun r1 =>
 tif ((!((decide (r0.1=r1.1))&&((decide (r0.2.1=r1.2.1))&&((decide (r0.2.2.1.1=r1.2.2.1.1))&&((decide (r0.2.2.1.2.1=r1.2.2.1.2.1))&&((decide (r0.2.2.1.2.2.1=r1.2.2.1.2.2.1))&&((r0.2.2.1.2.2.2==r1.2.2.1.2.2.2)&&((decide (r0.2.2.2.1.1=r1.2.2.2.1.1))&&((decide (r0.2.2.2.1.2.1=r1.2.2.2.1.2.1))&&((decide (r0.2.2.2.1.2.2.1=r1.2.2.2.1.2.2.1))&&((r0.2.2.2.1.2.2.2==r1.2.2.2.1.2.2.2)&&((decide (r0.2.2.2.2.1.1=r1.2.2.2.2.1.1))&&((decide (r0.2.2.2.2.1.2=r1.2.2.2.2.1.2))&&((decide (r0.2.2.2.2.2.1=r1.2.2.2.2.2.1))&&((decide (r0.2.2.2.2.2.2.1=r1.2.2.2.2.2.2.1))&&(decide (r0.2.2.2.2.2.2.2=r1.2.2.2.2.2.2.2)))))))))))))))))) (
 some (.inr false)) (
 i0a n f (s1,(s2,(s12,((IntKind.wrap .i64 (s13+1)),())))))) (
 some (.inl ())):=by kernel_rfl
theorem o1j (n:Nat) (n_:Int) (by_:Int):m0g (n+1) n_ by_ =
 tif ((decide (by_=0))) (
 none) (
 some (IntKind.wrap .i64 (Int.tdiv (IntKind.wrap .i64 ((IntKind.wrap .i64 (n_+by_))-1)) by_))):=by kernel_rfl
theorem i1g (n:Nat) (c:a0z) (last:Int) (now:Int):w0b (n+1) c last now =
 a0a (e0k n c) fun r0 =>
 tif ((decide (r0=0))) (
 a0a (e1a n last now c.2.1.1 c.2.2.1.1) fun r1 =>
 tif (r1) (
 a0a (e1a n last now c.2.1.2.1 c.2.2.1.2.1) fun r2 =>
 tif (r2) (
 a0a (e1a n last now c.2.1.2.2 c.2.2.1.2.2) fun r3 =>
 tif (r3) (
 some r3) (
 some r3)) (
 some r2)) (
 some r1)) (
 some (decide (r0=0))):=by kernel_rfl
theorem i1r (n:Nat) (l:(List (List UInt8×List UInt8))):n0f (n+1) l =
 tif ((decide ((((List.length l):Nat):Int)=0))) (
 some (8:Int)) (
 tif ((decide ((16:Int)<(((List.length l):Nat):Int)))) (
 some (8:Int)) (
 a0a (f0z n a0b (l,(256,(l,((((List.length l):Nat):Int),(0,())))))) fun r0 =>
 b0m (fun y1 =>
 some (0:Int)) (fun z2 =>
 some z2) r0)):=by kernel_rfl
theorem p0u (n f:Nat) (l:(List (List UInt8×List UInt8))) (left:Int) (s14:(List (List UInt8×List UInt8))) (s15:Int) (s16:Int):f0z n (f+1) (l,left,s14,s15,s16,()) =
 tif ((decide (s16<s15))) (
 a0a (at? s14 s16) fun r0 =>
 a0a (a1v n r0.1) fun r1 =>
 tif ((!r1)) (
 some (.inr (8:Int))) (
 tif ((decide ((128:Int)<(((List.length r0.2):Nat):Int)))) (
 some (.inr (8:Int))) (
 tif ((decide ((IntKind.wrap .i64 (left-(IntKind.wrap .i64 ((((List.length r0.1):Nat):Int)+(((List.length r0.2):Nat):Int)))))<0))) (
 some (.inr (8:Int))) (
 tif ((decide ((0:Int)<s16))) (
 a0a (at? l (IntKind.wrap .i64 (s16-1))) fun r2 =>
 tif ((!(Go.Op.bytesLess r2.1 r0.1))) (
 some (.inr (8:Int))) (
 f0z n f (l,((IntKind.wrap .i64 (left-(IntKind.wrap .i64 ((((List.length r0.1):Nat):Int)+(((List.length r0.2):Nat):Int))))),(s14,(s15,((IntKind.wrap .i64 (s16+1)),()))))))) (
 f0z n f (l,((IntKind.wrap .i64 (left-(IntKind.wrap .i64 ((((List.length r0.1):Nat):Int)+(((List.length r0.2):Nat):Int))))),(s14,(s15,((IntKind.wrap .i64 (s16+1)),())))))))))) (
 some (.inl ())):=by kernel_rfl
theorem j1e (n:Nat) (e:a0j):n0q (n+1) e =
 tif ((decide (e.1<0))) (
 some (2:Int)) (
 tif ((decide ((35184372088832:Int)≤e.1))) (
 some (2:Int)) (
 tif ((decide (e.2.2.1<0))) (
 some (2:Int)) (
 tif ((decide (e.1<e.2.2.1))) (
 some (2:Int)) (
 tif (e.2.2.2) (
 tif ((!((decide (e.1=e.1))&&((decide (e.2.1=0))&&((decide (e.2.2.1=0))&&(e.2.2.2==true)))))) (
 some (2:Int)) (
 some (0:Int))) (
 some (0:Int)))))):=by kernel_rfl
theorem a1b (n:Nat) (s1:(List (List UInt8×List UInt8))) (s2:(List (List UInt8×List UInt8))):o0x (n+1) s1 s2 =
 tif ((!(decide ((((List.length s1):Nat):Int)=(((List.length s2):Nat):Int))))) (
 some false) (
 a0a (g0u n a0b (s1,(s2,((((List.length s1):Nat):Int),(0,()))))) fun r0 =>
 b0m (fun y1 =>
 some true) (fun z2 =>
 some z2) r0):=by kernel_rfl
theorem l0m (n f:Nat) (s1:(List (List UInt8×List UInt8))) (s2:(List (List UInt8×List UInt8))) (s12:Int) (s13:Int):g0u n (f+1) (s1,s2,s12,s13,()) =
 tif ((decide (s13<s12))) (
 a0a (at? s1 s13) fun r0 =>
 a0a (at? s2 s13) fun r1 =>
 tif ((!((r0.1==r1.1)&&(r0.2==r1.2)))) (
 some (.inr false)) (
 g0u n f (s1,(s2,(s12,((IntKind.wrap .i64 (s13+1)),())))))) (
 some (.inl ())):=by kernel_rfl
theorem v1i (n:Nat) (c:a0z) (last:Int) (now:Int):m1j (n+1) c last now =
 a0a (g0l n c) fun r0 =>
 tif ((!(decide (r0=0)))) (
 some false) (
 a0a (y0o n last now c.2.1.1 c.2.2.1.1) fun r1 =>
 tif ((!r1)) (
 some false) (
 a0a (y0o n last now c.2.1.2.1 c.2.2.1.2.1) fun r2 =>
 tif ((!r2)) (
 some false) (
 a0a (y0o n last now c.2.1.2.2 c.2.2.1.2.2) fun r3 =>
 tif ((!r3)) (
 some false) (
 some true)))):=by kernel_rfl
theorem y0z (n:Nat) (x:Int) (y:Int):g0m (n+1) x y =
 some ((IntKind.wrap .u64 ((IntKind.wrap .u64 ((IntKind.wrap .u64 ((shrI .u64 x (32:Int))*(shrI .u64 y (32:Int))))+(shrI .u64 (IntKind.wrap .u64 ((IntKind.wrap .u64 ((shrI .u64 x (32:Int))*(andI .u64 y (4294967295:Int))))+(shrI .u64 (IntKind.wrap .u64 ((andI .u64 x (4294967295:Int))*(andI .u64 y (4294967295:Int)))) (32:Int)))) (32:Int))))+(shrI .u64 (IntKind.wrap .u64 ((andI .u64 (IntKind.wrap .u64 ((IntKind.wrap .u64 ((shrI .u64 x (32:Int))*(andI .u64 y (4294967295:Int))))+(shrI .u64 (IntKind.wrap .u64 ((andI .u64 x (4294967295:Int))*(andI .u64 y (4294967295:Int)))) (32:Int)))) (4294967295:Int))+(IntKind.wrap .u64 ((andI .u64 x (4294967295:Int))*(shrI .u64 y (32:Int)))))) (32:Int)))),(IntKind.wrap .u64 (x*y))):=by kernel_rfl
theorem n1t (n:Nat) (c:a0z) (s:((List a0d)×((List a0d)×(List a0d)))):b1b (n+1) c s =
 a0a (g1i n c s) fun r0 =>
 oelim (r0.1) (
 some r0.2) fun r1 =>
 some r0.2:=by kernel_rfl
theorem q1f (n:Nat) (r:(Int×(Int×(List a0j)))) (room:Int):e1y (n+1) r room =
 tif ((decide (room<1))) (
 some (2:Int)) (
 tif ((decide ((4096:Int)<room))) (
 some (2:Int)) (
 tif ((decide (room<(((List.length r.2.2):Nat):Int)))) (
 some (2:Int)) (
 tif ((decide (r.1<0))) (
 some (2:Int)) (
 tif ((decide ((70368744177664:Int)<r.1))) (
 some (2:Int)) (
 a0a (a1j n r.2.2) fun r0 =>
 tif ((!r0)) (
 some (2:Int)) (
 a0a (k1j n r room) fun r1 =>
 tif ((!r1)) (
 some (2:Int)) (
 some (0:Int)))))))):=by kernel_rfl
theorem p1r (n:Nat) (s:l0b):e1k (n+1) s =
 tif ((decide ((((List.length s.2.2.2.1.2.2):Nat):Int)=0))) (
 tif (((decide (s.2.2.2.2.2.1=0))&&((decide (s.2.2.2.2.2.2.1=0))&&((decide (s.2.2.2.2.2.2.2.1.1=0))&&((decide (s.2.2.2.2.2.2.2.1.2.1=0))&&((decide (s.2.2.2.2.2.2.2.1.2.2.1=0))&&((s.2.2.2.2.2.2.2.1.2.2.2==false)&&((decide (s.2.2.2.2.2.2.2.2.1.1=0))&&((decide (s.2.2.2.2.2.2.2.2.1.2.1=0))&&((decide (s.2.2.2.2.2.2.2.2.1.2.2.1=0))&&((s.2.2.2.2.2.2.2.2.1.2.2.2==false)&&((decide (s.2.2.2.2.2.2.2.2.2.1.1=0))&&((decide (s.2.2.2.2.2.2.2.2.2.1.2=0))&&((decide (s.2.2.2.2.2.2.2.2.2.2.1=0))&&((decide (s.2.2.2.2.2.2.2.2.2.2.2.1=0))&&(decide (s.2.2.2.2.2.2.2.2.2.2.2.2=0))))))))))))))))) (
 a0a (e0n n s.2.2.2.2.1.1 (0:Int)) fun r0 =>
 tif ((!r0)) (
 a0a (e0n n s.2.2.2.2.1.2.1 (0:Int)) fun r1 =>
 tif ((!r1)) (
 a0a (e0n n s.2.2.2.2.1.2.2 (0:Int)) fun r2 =>
 some (!r2)) (
 some false)) (
 some false)) (
 some false)) (
 some false):=by kernel_rfl
theorem u1l (n:Nat) (s:l0b):d1d (n+1) s =
 a0a (m1i n s.2.2.2.1) fun r0 =>
 tif ((decide (r0.2=0))) (
 tif ((decide (r0.1.1=s.2.2.1))) (
 tif ((decide (s.2.2.2.2.2.2.2.2.1.1=s.2.2.1))) (
 a0a (x0c n s.2.2.2.2.2.2 s.1.2.1.1 s.2.2.2.2.2.1) fun r1 =>
 tif (r1) (
 tif ((decide (s.1.2.1.1=0))) (
 none) (
 a0a (e0n n s.2.2.2.2.1.1 (IntKind.wrap .i64 (Int.tdiv s.2.2.1 s.1.2.1.1))) fun r2 =>
 tif ((!r2)) (
 tif ((decide (s.1.2.1.2.1=0))) (
 none) (
 a0a (e0n n s.2.2.2.2.1.2.1 (IntKind.wrap .i64 (Int.tdiv s.2.2.1 s.1.2.1.2.1))) fun r3 =>
 tif ((!r3)) (
 tif ((decide (s.1.2.1.2.2=0))) (
 none) (
 a0a (e0n n s.2.2.2.2.1.2.2 (IntKind.wrap .i64 (Int.tdiv s.2.2.1 s.1.2.1.2.2))) fun r4 =>
 some (!r4))) (
 some false))) (
 some false))) (
 some false)) (
 some false)) (
 some false)) (
 some false):=by kernel_rfl
theorem v0e (n:Nat) (w:(List Int)) (n_:Int):h0b (n+1) w n_ =
 a0a (e0z n a0b (w,(n_,()))) fun r0 =>
 b0m (fun y1 =>
 tif ((decide ((((List.length y1.1)+1)*1)≤140737488355328))) (
 some (y1.1++((IntKind.wrap .u8 y1.2.1)::[]))) (
 none)) (fun z2 =>
 some z2) r0:=by kernel_rfl
theorem r0s (n f:Nat) (w:(List Int)) (n_:Int):e0z n (f+1) (w,n_,()) =
 tif ((decide ((128:Int)≤n_))) (
 tif ((decide ((((List.length w)+1)*1)≤140737488355328))) (
 e0z n f ((w++((orI .u8 (IntKind.wrap .u8 n_) (128:Int))::[])),((shrI .u64 n_ (7:Int)),()))) (
 none)) (
 some (.inl (w,(n_,())))):=by kernel_rfl
theorem v0f (n:Nat) (w:(List Int)) (s:List UInt8):h0d (n+1) w s =
 a0a (h0b n w (IntKind.wrap .u64 (((List.length s):Nat):Int))) fun r0 =>
 a0a (e0l n r0 s) fun r1 =>
 some r1:=by kernel_rfl
theorem q1v (n:Nat) (n_:Int) (each:Int):p0o (n+1) n_ each =
 a0a (o0d n a0b (n_,(each,(0,())))) fun r0 =>
 b0m (fun y1 =>
 some y1.1) (fun z2 =>
 some z2) r0:=by kernel_rfl
theorem t0e (n f:Nat) (n_:Int) (each:Int) (k:Int):o0d n (f+1) (n_,each,k,()) =
 tif ((decide ((0:Int)<n_))) (
 o0d n f ((IntKind.wrap .i64 (n_-each)),(each,((IntKind.wrap .i64 (k+1)),())))) (
 some (.inl (k,()))):=by kernel_rfl
theorem r1d (n:Nat) (e:a0j):t0f (n+1) e =
 tif ((decide (e.1<0))) (
 some (2:Int)) (
 tif ((decide ((35184372088832:Int)≤e.1))) (
 some (2:Int)) (
 tif ((decide (e.2.2.1<0))) (
 some (2:Int)) (
 tif ((decide (e.1<e.2.2.1))) (
 some (2:Int)) (
 tif (e.2.2.2) (
 tif ((!(decide (e.2.1=0)))) (
 some (2:Int)) (
 tif ((!(decide (e.2.2.1=0)))) (
 some (2:Int)) (
 some (0:Int)))) (
 some (0:Int)))))):=by kernel_rfl
theorem q1s (n:Nat) (l:(List a0d)) (w:Int):t0a (n+1) l w =
 tif ((decide ((((List.length l):Nat):Int)<1))) (
 some (2:Int)) (
 tif ((decide ((4096:Int)<(((List.length l):Nat):Int)))) (
 some (2:Int)) (
 tif ((decide (w<1))) (
 some (2:Int)) (
 tif ((decide ((1099511627776:Int)<w))) (
 some (2:Int)) (
 a0a (i0m n a0b (l,(w,(l,((((List.length l):Nat):Int),(0,())))))) fun r0 =>
 b0m (fun y1 =>
 some (0:Int)) (fun z2 =>
 some z2) r0)))):=by kernel_rfl
theorem s0z (n f:Nat) (l:(List a0d)) (w:Int) (s23:(List a0d)) (s24:Int) (s25:Int):i0m n (f+1) (l,w,s23,s24,s25,()) =
 tif ((decide (s25<s24))) (
 a0a (at? s23 s25) fun r0 =>
 tif (((decide (r0.1=0))&&((decide (r0.2.1=0))&&((decide (r0.2.2.1.1=0))&&((decide (r0.2.2.1.2.1=0))&&((decide (r0.2.2.1.2.2.1=0))&&((r0.2.2.1.2.2.2==false)&&((decide (r0.2.2.2.1.1=0))&&((decide (r0.2.2.2.1.2.1=0))&&((decide (r0.2.2.2.1.2.2.1=0))&&((r0.2.2.2.1.2.2.2==false)&&((decide (r0.2.2.2.2.1.1=0))&&((decide (r0.2.2.2.2.1.2=0))&&((decide (r0.2.2.2.2.2.1=0))&&((decide (r0.2.2.2.2.2.2.1=0))&&(decide (r0.2.2.2.2.2.2.2=0))))))))))))))))) (
 i0m n f (l,(w,(s23,(s24,((IntKind.wrap .i64 (s25+1)),())))))) (
 a0a (d1h n r0.2 w r0.1) fun r1 =>
 tif ((!r1)) (
 some (.inr (2:Int))) (
 a0a (m1m n r0.1 (((List.length l):Nat):Int)) fun r2 =>
 tif ((!(decide (r2=s25)))) (
 some (.inr (2:Int))) (
 i0m n f (l,(w,(s23,(s24,((IntKind.wrap .i64 (s25+1)),()))))))))) (
 some (.inl ())):=by kernel_rfl
theorem r1c (n:Nat) (c:b1p):f1i (n+1) c =
 tif (((decide (c.1=0))&&((decide (c.2.1.1=0))&&((decide (c.2.1.2.1=0))&&((decide (c.2.1.2.2.1=0))&&((c.2.1.2.2.2==false)&&((decide (c.2.2.1.1=0))&&((decide (c.2.2.1.2.1=0))&&((decide (c.2.2.1.2.2.1=0))&&((c.2.2.1.2.2.2==false)&&((decide (c.2.2.2.1.1=0))&&((decide (c.2.2.2.1.2=0))&&((decide (c.2.2.2.2.1=0))&&((decide (c.2.2.2.2.2.1=0))&&(decide (c.2.2.2.2.2.2=0)))))))))))))))) (
 some (0:Int)) (
 tif ((decide (c.1<1))) (
 some (2:Int)) (
 a0a (t0f n c.2.1) fun r0 =>
 tif ((!(decide (r0=0)))) (
 some (2:Int)) (
 a0a (t0f n c.2.2.1) fun r1 =>
 tif ((!(decide (r1=0)))) (
 some (2:Int)) (
 tif ((decide (c.2.2.1.1<c.2.1.1))) (
 some (2:Int)) (
 tif ((decide ((IntKind.wrap .i64 ((IntKind.wrap .i64 (c.2.2.1.1-c.2.1.1))+1))<c.1))) (
 some (2:Int)) (
 tif ((decide (c.1=1))) (
 tif ((!((decide (c.2.1.1=c.2.2.1.1))&&((decide (c.2.1.2.1=c.2.2.1.2.1))&&((decide (c.2.1.2.2.1=c.2.2.1.2.2.1))&&(c.2.1.2.2.2==c.2.2.1.2.2.2)))))) (
 some (2:Int)) (
 tif ((decide ((1:Int)<c.1))) (
 tif ((decide (c.2.1.1=c.2.2.1.1))) (
 some (2:Int)) (
 tif ((decide (c.2.2.2.2.1<0))) (
 some (2:Int)) (
 tif ((decide (c.2.2.2.2.2.1<0))) (
 some (2:Int)) (
 tif ((decide (c.2.2.2.2.2.2<0))) (
 some (2:Int)) (
 tif ((decide (c.1≤c.2.2.2.2.1))) (
 some (2:Int)) (
 tif ((decide (c.1≤c.2.2.2.2.2.1))) (
 some (2:Int)) (
 tif ((decide (c.1≤(IntKind.wrap .i64 (c.2.2.2.2.1+c.2.2.2.2.2.1))))) (
 some (2:Int)) (
 tif ((decide ((IntKind.wrap .i64 (c.2.2.1.1-c.2.1.1))<c.2.2.2.2.2.2))) (
 some (2:Int)) (
 a0a (p0p n (0,18446744073709551615) (IntKind.wrap .u64 (IntKind.wrap .i64 (c.1-1)))) fun r2 =>
 a0a (u0r n r2.1 c.2.2.2.1) fun r3 =>
 tif (r3) (
 some (2:Int)) (
 some (0:Int))))))))))) (
 tif ((decide (c.2.2.2.2.1<0))) (
 some (2:Int)) (
 tif ((decide (c.2.2.2.2.2.1<0))) (
 some (2:Int)) (
 tif ((decide (c.2.2.2.2.2.2<0))) (
 some (2:Int)) (
 tif ((decide (c.1≤c.2.2.2.2.1))) (
 some (2:Int)) (
 tif ((decide (c.1≤c.2.2.2.2.2.1))) (
 some (2:Int)) (
 tif ((decide (c.1≤(IntKind.wrap .i64 (c.2.2.2.2.1+c.2.2.2.2.2.1))))) (
 some (2:Int)) (
 tif ((decide ((IntKind.wrap .i64 (c.2.2.1.1-c.2.1.1))<c.2.2.2.2.2.2))) (
 some (2:Int)) (
 a0a (p0p n (0,18446744073709551615) (IntKind.wrap .u64 (IntKind.wrap .i64 (c.1-1)))) fun r4 =>
 a0a (u0r n r4.1 c.2.2.2.1) fun r5 =>
 tif (r5) (
 some (2:Int)) (
 some (0:Int)))))))))))) (
 tif ((decide ((1:Int)<c.1))) (
 tif ((decide (c.2.1.1=c.2.2.1.1))) (
 some (2:Int)) (
 tif ((decide (c.2.2.2.2.1<0))) (
 some (2:Int)) (
 tif ((decide (c.2.2.2.2.2.1<0))) (
 some (2:Int)) (
 tif ((decide (c.2.2.2.2.2.2<0))) (
 some (2:Int)) (
 tif ((decide (c.1≤c.2.2.2.2.1))) (
 some (2:Int)) (
 tif ((decide (c.1≤c.2.2.2.2.2.1))) (
 some (2:Int)) (
 tif ((decide (c.1≤(IntKind.wrap .i64 (c.2.2.2.2.1+c.2.2.2.2.2.1))))) (
 some (2:Int)) (
 tif ((decide ((IntKind.wrap .i64 (c.2.2.1.1-c.2.1.1))<c.2.2.2.2.2.2))) (
 some (2:Int)) (
 a0a (p0p n (0,18446744073709551615) (IntKind.wrap .u64 (IntKind.wrap .i64 (c.1-1)))) fun r6 =>
 a0a (u0r n r6.1 c.2.2.2.1) fun r7 =>
 tif (r7) (
 some (2:Int)) (
 some (0:Int))))))))))) (
 tif ((decide (c.2.2.2.2.1<0))) (
 some (2:Int)) (
 tif ((decide (c.2.2.2.2.2.1<0))) (
 some (2:Int)) (
 tif ((decide (c.2.2.2.2.2.2<0))) (
 some (2:Int)) (
 tif ((decide (c.1≤c.2.2.2.2.1))) (
 some (2:Int)) (
 tif ((decide (c.1≤c.2.2.2.2.2.1))) (
 some (2:Int)) (
 tif ((decide (c.1≤(IntKind.wrap .i64 (c.2.2.2.2.1+c.2.2.2.2.2.1))))) (
 some (2:Int)) (
 tif ((decide ((IntKind.wrap .i64 (c.2.2.1.1-c.2.1.1))<c.2.2.2.2.2.2))) (
 some (2:Int)) (
 a0a (p0p n (0,18446744073709551615) (IntKind.wrap .u64 (IntKind.wrap .i64 (c.1-1)))) fun r8 =>
 a0a (u0r n r8.1 c.2.2.2.1) fun r9 =>
 tif (r9) (
 some (2:Int)) (
 some (0:Int))))))))))))))))):=by kernel_rfl
theorem f2b (n:Nat) (t:Int) (w:Int):k1k (n+1) t w =
 tif ((decide (t<0))) (
 some (0,1)) (
 tif ((decide ((35184372088832:Int)≤t))) (
 some (0,1)) (
 a0a (r1b n w) fun r0 =>
 tif ((!r0)) (
 some (0,1)) (
 tif ((decide (w=0))) (
 none) (
 tif ((decide (w=0))) (
 none) (
 some ((IntKind.wrap .i64 (Int.tdiv (IntKind.wrap .i64 (t-(Int.tmod t w))) w)),0)))))):=by kernel_rfl
theorem s0h (n:Nat) (s:(List (List UInt8))) (f_:((List UInt8×Unit)→Option Bool)):m0p (n+1) s f_ =
 a0a (d0b n a0b (s,(f_,((((List.length s):Nat):Int),(0,()))))) fun r0 =>
 b0m (fun y1 =>
 some ((-1):Int)) (fun z2 =>
 some z2) r0:=by kernel_rfl
theorem h0x (n f:Nat) (s:(List (List UInt8))) (f_:((List UInt8×Unit)→Option Bool)) (s7:Int) (s8:Int):d0b n (f+1) (s,f_,s7,s8,()) =
 tif ((decide (s8<s7))) (
 a0a (at? s s8) fun r0 =>
 a0a (f_ (r0,())) fun r1 =>
 tif (r1) (
 some (.inr s8)) (
 d0b n f (s,(f_,(s7,((IntKind.wrap .i64 (s8+1)),())))))) (
 some (.inl ())):=by kernel_rfl
theorem e1j (n:Nat) (elems:(List (List UInt8))) (sep:List UInt8):strings_Join (n+1) elems sep =
 tif ((decide ((((List.length elems):Nat):Int)=0))) (
 some []) (
 tif ((decide ((((List.length elems):Nat):Int)=1))) (
 a0a (at? elems (0:Int)) fun r0 =>
 some r0) (
 tif ((decide ((0:Int)<(((List.length sep):Nat):Int)))) (
 tif ((decide ((IntKind.wrap .i64 ((((List.length elems):Nat):Int)-1))=0))) (
 none) (
 tif ((decide ((IntKind.wrap .i64 (Int.tdiv (9223372036854775807:Int) (IntKind.wrap .i64 ((((List.length elems):Nat):Int)-1))))≤(((List.length sep):Nat):Int)))) (
 none) (
 a0a (f0t n a0b (elems,(sep,((IntKind.wrap .i64 ((0:Int)+(IntKind.wrap .i64 ((((List.length sep):Nat):Int)*(IntKind.wrap .i64 ((((List.length elems):Nat):Int)-1)))))),(elems,((((List.length elems):Nat):Int),((0:Int),()))))))) fun r1 =>
 b0m (fun y2 =>
 a0a (b0z n [] y2.2.2.1) fun r3 =>
 a0a (at? y2.1 (0:Int)) fun r4 =>
 a0a (a0p n r3 r4) fun r5 =>
 tif ((decide (1≤(List.length y2.1)))) (
 a0a (f0s n a0b (y2.2.1,(r5.2.2,((List.drop 1 (List.take (List.length y2.1) y2.1)),((((List.length (List.drop 1 (List.take (List.length y2.1) y2.1))):Nat):Int),((0:Int),())))))) fun r6 =>
 b0m (fun y7 =>
 a0a (b0o n y7.1) fun r8 =>
 some r8.1) (fun z9 =>
 some z9) r6) (
 none)) (fun z10 =>
 some z10) r1))) (
 a0a (f0t n a0b (elems,(sep,((0:Int),(elems,((((List.length elems):Nat):Int),((0:Int),()))))))) fun r11 =>
 b0m (fun y12 =>
 a0a (b0z n [] y12.2.2.1) fun r13 =>
 a0a (at? y12.1 (0:Int)) fun r14 =>
 a0a (a0p n r13 r14) fun r15 =>
 tif ((decide (1≤(List.length y12.1)))) (
 a0a (f0s n a0b (y12.2.1,(r15.2.2,((List.drop 1 (List.take (List.length y12.1) y12.1)),((((List.length (List.drop 1 (List.take (List.length y12.1) y12.1))):Nat):Int),((0:Int),())))))) fun r16 =>
 b0m (fun y17 =>
 a0a (b0o n y17.1) fun r18 =>
 some r18.1) (fun z19 =>
 some z19) r16) (
 none)) (fun z20 =>
 some z20) r11))):=by kernel_rfl
theorem m0n (n f:Nat) (elems:(List (List UInt8))) (sep:List UInt8) (n_:Int) (s39:(List (List UInt8))) (s40:Int) (s41:Int):f0t n (f+1) (elems,sep,n_,s39,s40,s41,()) =
 tif ((decide (s41<s40))) (
 a0a (at? s39 s41) fun r0 =>
 tif ((decide ((IntKind.wrap .i64 ((9223372036854775807:Int)-n_))<(((List.length r0):Nat):Int)))) (
 none) (
 f0t n f (elems,(sep,((IntKind.wrap .i64 (n_+(((List.length r0):Nat):Int))),(s39,(s40,((IntKind.wrap .i64 (s41+1)),())))))))) (
 some (.inl (elems,(sep,(n_,()))))):=by kernel_rfl
theorem m0m (n f:Nat) (sep:List UInt8) (b:List UInt8) (s63:(List (List UInt8))) (s64:Int) (s65:Int):f0s n (f+1) (sep,b,s63,s64,s65,()) =
 tif ((decide (s65<s64))) (
 a0a (at? s63 s65) fun r0 =>
 a0a (a0p n b sep) fun r1 =>
 a0a (a0p n r1.2.2 r0) fun r2 =>
 f0s n f (sep,(r2.2.2,(s63,(s64,((IntKind.wrap .i64 (s65+1)),())))))) (
 some (.inl (b,()))):=by kernel_rfl
theorem l0r (n:Nat) (r:(List UInt8×Bool)) (long:Int):f0g (n+1) r long =
 a0a (d0f n r) fun r0 =>
 tif ((decide (long<0))) (
 a0a (b0y n r0.2) fun r1 =>
 some ([],r1)) (
 tif ((decide ((IntKind.wrap .u64 long)<r0.1))) (
 a0a (b0y n r0.2) fun r2 =>
 some ([],r2)) (
 tif ((decide ((IntKind.wrap .u64 (((List.length r0.2.1):Nat):Int))<r0.1))) (
 a0a (b0y n r0.2) fun r3 =>
 some ([],r3)) (
 a0a (d0q n r0.2 (IntKind.wrap .i64 r0.1)) fun r4 =>
 some r4))):=by kernel_rfl
theorem z0h (n:Nat) (r:(List UInt8×Bool)):g0n (n+1) r =
 a0a (a0f n r (8:Int)) fun r0 =>
 a0a (a0f n r0.2 (8:Int)) fun r1 =>
 a0a (a0f n r1.2 (8:Int)) fun r2 =>
 a0a (a0f n r2.2 (1:Int)) fun r3 =>
 some (((IntKind.wrap .i64 r0.1),(r1.1,((IntKind.wrap .i64 r2.1),(decide (r3.1=1))))),r3.2):=by kernel_rfl
theorem f1e (n:Nat) (a:(List a0j)) (b:(List a0j)):t0c (n+1) a b =
 tif ((!(decide ((((List.length a):Nat):Int)=(((List.length b):Nat):Int))))) (
 some false) (
 a0a (j0e n a0b (a,(b,((((List.length a):Nat):Int),(0,()))))) fun r0 =>
 b0m (fun y1 =>
 some true) (fun z2 =>
 some z2) r0):=by kernel_rfl
theorem o0c (n f:Nat) (a:(List a0j)) (b:(List a0j)) (s12:Int) (s13:Int):j0e n (f+1) (a,b,s12,s13,()) =
 tif ((decide (s13<s12))) (
 a0a (at? a s13) fun r0 =>
 a0a (at? b s13) fun r1 =>
 tif ((!((decide (r0.1=r1.1))&&((decide (r0.2.1=r1.2.1))&&((decide (r0.2.2.1=r1.2.2.1))&&(r0.2.2.2==r1.2.2.2)))))) (
 some (.inr false)) (
 j0e n f (a,(b,(s12,((IntKind.wrap .i64 (s13+1)),())))))) (
 some (.inl ())):=by kernel_rfl
theorem v1l (n:Nat) (a:(List a0d)) (b:(List a0d)):y0j (n+1) a b =
 tif ((!(decide ((((List.length a):Nat):Int)=(((List.length b):Nat):Int))))) (
 some false) (
 a0a (r0c n a0b (a,(b,((((List.length a):Nat):Int),(0,()))))) fun r0 =>
 b0m (fun y1 =>
 some true) (fun z2 =>
 some z2) r0):=by kernel_rfl
theorem v0o (n f:Nat) (a:(List a0d)) (b:(List a0d)) (s12:Int) (s13:Int):r0c n (f+1) (a,b,s12,s13,()) =
 tif ((decide (s13<s12))) (
 a0a (at? a s13) fun r0 =>
 a0a (at? b s13) fun r1 =>
 tif ((!((decide (r0.1=r1.1))&&((decide (r0.2.1=r1.2.1))&&((decide (r0.2.2.1.1=r1.2.2.1.1))&&((decide (r0.2.2.1.2.1=r1.2.2.1.2.1))&&((decide (r0.2.2.1.2.2.1=r1.2.2.1.2.2.1))&&((r0.2.2.1.2.2.2==r1.2.2.1.2.2.2)&&((decide (r0.2.2.2.1.1=r1.2.2.2.1.1))&&((decide (r0.2.2.2.1.2.1=r1.2.2.2.1.2.1))&&((decide (r0.2.2.2.1.2.2.1=r1.2.2.2.1.2.2.1))&&((r0.2.2.2.1.2.2.2==r1.2.2.2.1.2.2.2)&&((decide (r0.2.2.2.2.1.1=r1.2.2.2.2.1.1))&&((decide (r0.2.2.2.2.1.2=r1.2.2.2.2.1.2))&&((decide (r0.2.2.2.2.2.1=r1.2.2.2.2.2.1))&&((decide (r0.2.2.2.2.2.2.1=r1.2.2.2.2.2.2.1))&&(decide (r0.2.2.2.2.2.2.2=r1.2.2.2.2.2.2.2)))))))))))))))))) (
 some (.inr false)) (
 r0c n f (a,(b,(s12,((IntKind.wrap .i64 (s13+1)),())))))) (
 some (.inl ())):=by kernel_rfl
theorem x0g (n:Nat) (k:Int) (p1:Int) (p2:b0f):g0j (n+1) k p1 p2 =
 tif ((decide (k=p1))) (
 some true) (
 a0a (k0g n p2 k) fun r0 =>
 tif (r0) (
 a0a (at? p2.2.2.2 k) fun r1 =>
 a0a (at? p2.2.2.2 p1) fun r2 =>
 a0a (u0u n r1.1 r2.1) fun r3 =>
 some r3) (
 some false)):=by kernel_rfl
theorem a1c (n:Nat) (s1:(List a0j)) (s2:(List a0j)):o0y (n+1) s1 s2 =
 tif ((!(decide ((((List.length s1):Nat):Int)=(((List.length s2):Nat):Int))))) (
 some false) (
 a0a (g0v n a0b (s1,(s2,((((List.length s1):Nat):Int),(0,()))))) fun r0 =>
 b0m (fun y1 =>
 some true) (fun z2 =>
 some z2) r0):=by kernel_rfl
theorem l0n (n f:Nat) (s1:(List a0j)) (s2:(List a0j)) (s12:Int) (s13:Int):g0v n (f+1) (s1,s2,s12,s13,()) =
 tif ((decide (s13<s12))) (
 a0a (at? s1 s13) fun r0 =>
 a0a (at? s2 s13) fun r1 =>
 tif ((!((decide (r0.1=r1.1))&&((decide (r0.2.1=r1.2.1))&&((decide (r0.2.2.1=r1.2.2.1))&&(r0.2.2.2==r1.2.2.2)))))) (
 some (.inr false)) (
 g0v n f (s1,(s2,(s12,((IntKind.wrap .i64 (s13+1)),())))))) (
 some (.inl ())):=by kernel_rfl
theorem z1y (n:Nat) (t:Int) (now:Int) (w:Int) (n_:Int):e1a (n+1) t now w n_ =
 a0a (z1x n t w) fun r0 =>
 a0a (d1z n now w n_) fun r1 =>
 tif ((decide (r0.2=0))) (
 tif ((decide (r1.2=0))) (
 some (decide (r0.1<r1.1))) (
 some false)) (
 some false):=by kernel_rfl
theorem n1j (n:Nat) (s:List UInt8):a1v (n+1) s =
 tif ((s==[])) (
 some false) (
 tif ((decide ((64:Int)<(((List.length s):Nat):Int)))) (
 some false) (
 a0a (at? s (0:Int)) fun r0 =>
 a0a (r0k n (((UInt8.toNat r0):Nat):Int)) fun r1 =>
 tif (r1) (
 some false) (
 a0a (h0o n (List.map (fun y2=>(((UInt8.toNat y2):Nat):Int)) s) (fun y3=>t0o n y3.1)) fun r4 =>
 some (!r4)))):=by kernel_rfl
theorem v1r (n:Nat) (t:Int) (now:Int) (w:Int) (n_:Int):y0o (n+1) t now w n_ =
 a0a (k1k n t w) fun r0 =>
 a0a (a1l n now w n_) fun r1 =>
 tif ((decide (r0.2=0))) (
 tif ((decide (r1.2=0))) (
 some (decide (r0.1<r1.1))) (
 some false)) (
 some false):=by kernel_rfl
theorem s1w (n:Nat) (c:a0z) (s:((List a0d)×((List a0d)×(List a0d)))):g1i (n+1) c s =
 a0a (e0k n c) fun r0 =>
 tif ((!(decide (r0=0)))) (
 some (none,r0)) (
 tif ((!(decide ((((List.length s.1):Nat):Int)=c.2.2.1.1)))) (
 some (none,2)) (
 a0a (p0g n s.1 c.2.1.1) fun r1 =>
 tif ((!(decide (r1=0)))) (
 some (none,2)) (
 tif ((!(decide ((((List.length s.2.1):Nat):Int)=c.2.2.1.2.1)))) (
 some (none,2)) (
 a0a (p0g n s.2.1 c.2.1.2.1) fun r2 =>
 tif ((!(decide (r2=0)))) (
 some (none,2)) (
 tif ((!(decide ((((List.length s.2.2):Nat):Int)=c.2.2.1.2.2)))) (
 some (none,2)) (
 a0a (p0g n s.2.2 c.2.1.2.2) fun r3 =>
 tif ((!(decide (r3=0)))) (
 some (none,2)) (
 some ((some (c,s)),0)))))))):=by kernel_rfl
theorem m1f (n:Nat) (l:(List a0j)):a1j (n+1) l =
 a0a (g0x n a0b (l,(l,((((List.length l):Nat):Int),(0,()))))) fun r0 =>
 b0m (fun y1 =>
 some true) (fun z2 =>
 some z2) r0:=by kernel_rfl
theorem r0z (n f:Nat) (l:(List a0j)) (s5:(List a0j)) (s6:Int) (s7:Int):g0x n (f+1) (l,s5,s6,s7,()) =
 tif ((decide (s7<s6))) (
 a0a (at? s5 s7) fun r0 =>
 a0a (n0q n r0) fun r1 =>
 tif ((!(decide (r1=0)))) (
 some (.inr false)) (
 tif ((decide ((0:Int)<s7))) (
 a0a (at? l (IntKind.wrap .i64 (s7-1))) fun r2 =>
 a0a (o0n n r2 r0) fun r3 =>
 tif ((!r3)) (
 some (.inr false)) (
 g0x n f (l,(s5,(s6,((IntKind.wrap .i64 (s7+1)),())))))) (
 g0x n f (l,(s5,(s6,((IntKind.wrap .i64 (s7+1)),()))))))) (
 some (.inl ())):=by kernel_rfl
theorem m1h (n:Nat) (r:(Int×(Int×(List a0j)))) (room:Int):k1j (n+1) r room =
 tif ((decide (r.1=0))) (
 some (decide (r.2.1=0))) (
 tif ((decide ((((List.length r.2.2):Nat):Int)=room))) (
 tif ((decide ((0:Int)≤r.2.1))) (
 a0a (at? r.2.2 (0:Int)) fun r0 =>
 some (decide (r.2.1<r0.1))) (
 some false)) (
 some false)):=by kernel_rfl
theorem c1u (n:Nat) (l:(List a0d)) (i:Int):e0n (n+1) l i =
 a0a (h0p n l (fun y0=>m0s n y0.1 i)) fun r1 =>
 some r1:=by kernel_rfl
theorem v1a (n:Nat) (r:(Int×(Int×(List a0j)))):m1i (n+1) r =
 tif ((decide ((((List.length r.2.2):Nat):Int)=0))) (
 some ((0,(0,(0,false))),3)) (
 a0a (at? r.2.2 (IntKind.wrap .i64 ((((List.length r.2.2):Nat):Int)-1))) fun r0 =>
 some (r0,0)):=by kernel_rfl
theorem p1j (n:Nat) (c:b1p) (w:Int) (i:Int):x0c (n+1) c w i =
 tif ((decide (c.1=0))) (
 some false) (
 a0a (b1j n c) fun r0 =>
 tif ((!(decide (r0=0)))) (
 some false) (
 a0a (g0i n a0b (w,(i,((c.2.1.1,c.2.2.1.1),(0,()))))) fun r1 =>
 b0m (fun y2 =>
 some true) (fun z3 =>
 some z3) r1)):=by kernel_rfl
theorem m0l (n f:Nat) (w:Int) (i:Int) (s25:(Int×Int)) (s26:Int):g0i n (f+1) (w,i,s25,s26,()) =
 tif ((decide (s26<2))) (
 tif ((decide (s26=0))) (
 a0a (z1x n s25.1 w) fun r0 =>
 tif ((!(decide (r0.2=0)))) (
 some (.inr false)) (
 tif ((!(decide (r0.1=i)))) (
 some (.inr false)) (
 g0i n f (w,(i,(s25,((IntKind.wrap .i64 (s26+1)),()))))))) (
 tif ((decide (s26=1))) (
 a0a (z1x n s25.2 w) fun r1 =>
 tif ((!(decide (r1.2=0)))) (
 some (.inr false)) (
 tif ((!(decide (r1.1=i)))) (
 some (.inr false)) (
 g0i n f (w,(i,(s25,((IntKind.wrap .i64 (s26+1)),()))))))) (
 none))) (
 some (.inl ())):=by kernel_rfl
theorem v1q (n:Nat) (i:Int) (n_:Int):m1m (n+1) i n_ =
 tif ((decide (i<0))) (
 some (0:Int)) (
 tif ((decide (n_<1))) (
 some (0:Int)) (
 tif ((decide (n_=0))) (
 none) (
 some (Int.tmod i n_)))):=by kernel_rfl
theorem r1k (n:Nat) (a:(Int×Int)) (n_:Int):p0p (n+1) a n_ =
 a0a (d0z n a0b (n_,(a,((0,0),((0,0),(false,())))))) fun r0 =>
 b0m (fun y1 =>
 some (y1.2.1,0)) (fun z2 =>
 some z2) r0:=by kernel_rfl
theorem j0f (n f:Nat) (n_:Int) (a_:(Int×Int)) (s4:(Int×Int)) (out:(Int×Int)) (over:Bool):d0z n (f+1) (n_,a_,s4,out,over,()) =
 tif ((decide ((0:Int)<n_))) (
 tif ((decide ((Int.tmod n_ (2:Int))=1))) (
 tif (over) (
 some (.inr ((0,0),1))) (
 a0a (f1m n out a_) fun r0 =>
 tif ((!(decide (r0.2=0)))) (
 some (.inr ((0,0),r0.2))) (
 a0a (f1m n a_ a_) fun r1 =>
 tif (over) (
 d0z n f ((IntKind.wrap .u64 (Int.tdiv n_ (2:Int))),(r1.1,(s4,(r0.1,(true,())))))) (
 d0z n f ((IntKind.wrap .u64 (Int.tdiv n_ (2:Int))),(r1.1,(s4,(r0.1,((!(decide (r1.2=0))),()))))))))) (
 a0a (f1m n a_ a_) fun r2 =>
 tif (over) (
 d0z n f ((IntKind.wrap .u64 (Int.tdiv n_ (2:Int))),(r2.1,(s4,(out,(true,())))))) (
 d0z n f ((IntKind.wrap .u64 (Int.tdiv n_ (2:Int))),(r2.1,(s4,(out,((!(decide (r2.2=0))),())))))))) (
 some (.inl (s4,(out,())))):=by kernel_rfl
theorem v1y (n:Nat) (a:(Int×Int)) (b:(Int×Int)):u0r (n+1) a b =
 a0a (p0q n a) fun r0 =>
 a0a (p0q n b) fun r1 =>
 tif ((!(decide (r0.2.2.2.2.2.2.2.2.2.2.2.2.2.2.2=r1.2.2.2.2.2.2.2.2.2.2.2.2.2.2.2)))) (
 some (decide (r0.2.2.2.2.2.2.2.2.2.2.2.2.2.2.2<r1.2.2.2.2.2.2.2.2.2.2.2.2.2.2.2))) (
 tif ((!(decide (r0.2.2.2.2.2.2.2.2.2.2.2.2.2.2.1=r1.2.2.2.2.2.2.2.2.2.2.2.2.2.2.1)))) (
 some (decide (r0.2.2.2.2.2.2.2.2.2.2.2.2.2.2.1<r1.2.2.2.2.2.2.2.2.2.2.2.2.2.2.1))) (
 tif ((!(decide (r0.2.2.2.2.2.2.2.2.2.2.2.2.2.1=r1.2.2.2.2.2.2.2.2.2.2.2.2.2.1)))) (
 some (decide (r0.2.2.2.2.2.2.2.2.2.2.2.2.2.1<r1.2.2.2.2.2.2.2.2.2.2.2.2.2.1))) (
 tif ((!(decide (r0.2.2.2.2.2.2.2.2.2.2.2.2.1=r1.2.2.2.2.2.2.2.2.2.2.2.2.1)))) (
 some (decide (r0.2.2.2.2.2.2.2.2.2.2.2.2.1<r1.2.2.2.2.2.2.2.2.2.2.2.2.1))) (
 tif ((!(decide (r0.2.2.2.2.2.2.2.2.2.2.2.1=r1.2.2.2.2.2.2.2.2.2.2.2.1)))) (
 some (decide (r0.2.2.2.2.2.2.2.2.2.2.2.1<r1.2.2.2.2.2.2.2.2.2.2.2.1))) (
 tif ((!(decide (r0.2.2.2.2.2.2.2.2.2.2.1=r1.2.2.2.2.2.2.2.2.2.2.1)))) (
 some (decide (r0.2.2.2.2.2.2.2.2.2.2.1<r1.2.2.2.2.2.2.2.2.2.2.1))) (
 tif ((!(decide (r0.2.2.2.2.2.2.2.2.2.1=r1.2.2.2.2.2.2.2.2.2.1)))) (
 some (decide (r0.2.2.2.2.2.2.2.2.2.1<r1.2.2.2.2.2.2.2.2.2.1))) (
 tif ((!(decide (r0.2.2.2.2.2.2.2.2.1=r1.2.2.2.2.2.2.2.2.1)))) (
 some (decide (r0.2.2.2.2.2.2.2.2.1<r1.2.2.2.2.2.2.2.2.1))) (
 tif ((!(decide (r0.2.2.2.2.2.2.2.1=r1.2.2.2.2.2.2.2.1)))) (
 some (decide (r0.2.2.2.2.2.2.2.1<r1.2.2.2.2.2.2.2.1))) (
 tif ((!(decide (r0.2.2.2.2.2.2.1=r1.2.2.2.2.2.2.1)))) (
 some (decide (r0.2.2.2.2.2.2.1<r1.2.2.2.2.2.2.1))) (
 tif ((!(decide (r0.2.2.2.2.2.1=r1.2.2.2.2.2.1)))) (
 some (decide (r0.2.2.2.2.2.1<r1.2.2.2.2.2.1))) (
 tif ((!(decide (r0.2.2.2.2.1=r1.2.2.2.2.1)))) (
 some (decide (r0.2.2.2.2.1<r1.2.2.2.2.1))) (
 tif ((!(decide (r0.2.2.2.1=r1.2.2.2.1)))) (
 some (decide (r0.2.2.2.1<r1.2.2.2.1))) (
 tif ((!(decide (r0.2.2.1=r1.2.2.1)))) (
 some (decide (r0.2.2.1<r1.2.2.1))) (
 tif ((!(decide (r0.2.1=r1.2.1)))) (
 some (decide (r0.2.1<r1.2.1))) (
 tif ((!(decide (r0.1=r1.1)))) (
 some (decide (r0.1<r1.1))) (
 some false)))))))))))))))):=by kernel_rfl
theorem r1a (n:Nat) (w:Int):r1b (n+1) w =
 tif ((decide ((1:Int)≤w))) (
 some (decide (w≤1099511627776))) (
 some false):=by kernel_rfl
theorem wi_Of_eq (n:Nat) (t:Int) (w:Int):z1x (n+1) t w =
 a0a (q0h n t (0:Int) (35184372088831:Int)) fun r0 =>
 tif ((!r0)) (
 some (0,1)) (
 a0a (x1m n w) fun r1 =>
 tif ((!r1)) (
 some (0,1)) (
 tif ((decide (w=0))) (
 none) (
 some ((IntKind.wrap .i64 (Int.tdiv t w)),0)))):=by kernel_rfl
theorem p1c (n:Nat) (now:Int) (w:Int) (n_:Int):d1z (n+1) now w n_ =
 a0a (z1x n now w) fun r0 =>
 tif ((!(decide (r0.2=0)))) (
 some (0,1)) (
 a0a (p1b n n_ (1:Int) (4096:Int)) fun r1 =>
 tif ((!r1)) (
 some (0,1)) (
 some ((if (0:Int)<(IntKind.wrap .i64 ((IntKind.wrap .i64 (r0.1+1))-n_)) then (IntKind.wrap .i64 ((IntKind.wrap .i64 (r0.1+1))-n_)) else (0:Int)),0))):=by kernel_rfl
theorem i1q (n:Nat) (c:Int):r0k (n+1) c =
 tif ((decide ((48:Int)≤c))) (
 some (decide (c≤57))) (
 some false):=by kernel_rfl
theorem q0q (n:Nat) (s:(List Int)) (f_:((Int×Unit)→Option Bool)):h0o (n+1) s f_ =
 a0a (p0k n s f_) fun r0 =>
 some (decide ((0:Int)≤r0)):=by kernel_rfl
theorem g1a (n:Nat) (c:Int):t0o (n+1) c =
 a0a (a1u n c) fun r0 =>
 some (!r0):=by kernel_rfl
theorem n1h (n:Nat) (c:Int):a1u (n+1) c =
 a0a (r0k n c) fun r0 =>
 tif (r0) (
 some true) (
 tif ((decide (c=95))) (
 some true) (
 tif ((decide ((97:Int)≤(orI .u8 c (32:Int))))) (
 some (decide ((orI .u8 c (32:Int))≤122))) (
 some false))):=by kernel_rfl
theorem g1p (n:Nat) (p:a0j) (c:a0j):o0n (n+1) p c =
 a0a (r0q n (p::(c::[]))) fun r0 =>
 tif (r0) (
 some (decide (p.1<c.1))) (
 some false):=by kernel_rfl
theorem m1n (n:Nat) (now:Int) (w:Int) (n_:Int):a1l (n+1) now w n_ =
 a0a (k1k n now w) fun r0 =>
 tif ((!(decide (r0.2=0)))) (
 some (0,1)) (
 tif ((decide (n_<1))) (
 some (0,1)) (
 tif ((decide ((4096:Int)<n_))) (
 some (0,1)) (
 some ((if (IntKind.wrap .i64 ((IntKind.wrap .i64 (r0.1-n_))+1))<0 then (0:Int) else (IntKind.wrap .i64 ((IntKind.wrap .i64 (r0.1-n_))+1))),0)))):=by kernel_rfl
theorem l1r (n:Nat) (l:(List a0d)) (w:Int):p0g (n+1) l w =
 tif ((decide ((((List.length l):Nat):Int)=0))) (
 some (2:Int)) (
 tif ((decide ((4096:Int)<(((List.length l):Nat):Int)))) (
 some (2:Int)) (
 tif ((decide (w<1))) (
 some (2:Int)) (
 tif ((decide ((1099511627776:Int)<w))) (
 some (2:Int)) (
 a0a (g0t n a0b (l,(w,(l,((((List.length l):Nat):Int),(0,())))))) fun r0 =>
 b0m (fun y1 =>
 some (0:Int)) (fun z2 =>
 some z2) r0)))):=by kernel_rfl
theorem r0v (n f:Nat) (l:(List a0d)) (w:Int) (s23:(List a0d)) (s24:Int) (s25:Int):g0t n (f+1) (l,w,s23,s24,s25,()) =
 tif ((decide (s25<s24))) (
 a0a (at? s23 s25) fun r0 =>
 a0a (s0o n r0) fun r1 =>
 tif ((!r1)) (
 a0a (t1z n r0.1 (((List.length l):Nat):Int)) fun r2 =>
 tif ((!(decide (r2=s25)))) (
 some (.inr (2:Int))) (
 a0a (x0c n r0.2 w r0.1) fun r3 =>
 tif ((!r3)) (
 some (.inr (2:Int))) (
 g0t n f (l,(w,(s23,(s24,((IntKind.wrap .i64 (s25+1)),())))))))) (
 g0t n f (l,(w,(s23,(s24,((IntKind.wrap .i64 (s25+1)),()))))))) (
 some (.inl ())):=by kernel_rfl
theorem q0r (n:Nat) (s:(List a0d)) (f_:((a0d×Unit)→Option Bool)):h0p (n+1) s f_ =
 a0a (j0u n s f_) fun r0 =>
 some (decide ((0:Int)≤r0)):=by kernel_rfl
theorem x0u (n:Nat) (s:a0d) (p1:Int):m0s (n+1) s p1 =
 tif ((decide ((0:Int)<s.2.1))) (
 some (decide (p1≤s.1))) (
 some false):=by kernel_rfl
theorem o1r (n:Nat) (c:b1p):b1j (n+1) c =
 a0a (g1z n c) fun r0 =>
 tif (r0) (
 some (0:Int)) (
 a0a (b1i n c) fun r1 =>
 tif ((!r1)) (
 some (2:Int)) (
 a0a (t1w n (18446744073709551615:Int)) fun r2 =>
 a0a (z0t n r2 (IntKind.wrap .u64 (IntKind.wrap .i64 (c.1-1)))) fun r3 =>
 tif ((!(decide (r3.2=0)))) (
 some (2:Int)) (
 a0a (d1y n r3.1 c.2.2.2.1) fun r4 =>
 tif (r4) (
 some (2:Int)) (
 a0a (h1e n c.2.2.2.2.2.1 (IntKind.wrap .i64 (c.1-1))) fun r5 =>
 tif ((!r5)) (
 some (2:Int)) (
 a0a (h1e n c.2.2.2.2.1 (IntKind.wrap .i64 ((IntKind.wrap .i64 (c.1-1))-c.2.2.2.2.2.1))) fun r6 =>
 tif ((!r6)) (
 some (2:Int)) (
 a0a (h1e n c.2.2.2.2.2.2 (IntKind.wrap .i64 (c.2.2.1.1-c.2.1.1))) fun r7 =>
 tif ((!r7)) (
 some (2:Int)) (
 some (0:Int)))))))):=by kernel_rfl
theorem b2d (n:Nat) (a:(Int×Int)) (b:(Int×Int)):f1m (n+1) a b =
 a0a (p0q n a) fun r0 =>
 a0a (p0q n b) fun r1 =>
 tif ((decide ((0:Int)<(IntKind.wrap .i64 (Int.tdiv (IntKind.wrap .i64 ((IntKind.wrap .i64 (r0.2.2.2.2.2.2.2.2.2.2.2.2.2.2.2+r1.2.2.2.2.2.2.2.2.2.2.2.2.2.2.2))+(IntKind.wrap .i64 (Int.tdiv (IntKind.wrap .i64 ((IntKind.wrap .i64 (r0.2.2.2.2.2.2.2.2.2.2.2.2.2.2.1+r1.2.2.2.2.2.2.2.2.2.2.2.2.2.2.1))+(IntKind.wrap .i64 (Int.tdiv (IntKind.wrap .i64 ((IntKind.wrap .i64 (r0.2.2.2.2.2.2.2.2.2.2.2.2.2.1+r1.2.2.2.2.2.2.2.2.2.2.2.2.2.1))+(IntKind.wrap .i64 (Int.tdiv (IntKind.wrap .i64 ((IntKind.wrap .i64 (r0.2.2.2.2.2.2.2.2.2.2.2.2.1+r1.2.2.2.2.2.2.2.2.2.2.2.2.1))+(IntKind.wrap .i64 (Int.tdiv (IntKind.wrap .i64 ((IntKind.wrap .i64 (r0.2.2.2.2.2.2.2.2.2.2.2.1+r1.2.2.2.2.2.2.2.2.2.2.2.1))+(IntKind.wrap .i64 (Int.tdiv (IntKind.wrap .i64 ((IntKind.wrap .i64 (r0.2.2.2.2.2.2.2.2.2.2.1+r1.2.2.2.2.2.2.2.2.2.2.1))+(IntKind.wrap .i64 (Int.tdiv (IntKind.wrap .i64 ((IntKind.wrap .i64 (r0.2.2.2.2.2.2.2.2.2.1+r1.2.2.2.2.2.2.2.2.2.1))+(IntKind.wrap .i64 (Int.tdiv (IntKind.wrap .i64 ((IntKind.wrap .i64 (r0.2.2.2.2.2.2.2.2.1+r1.2.2.2.2.2.2.2.2.1))+(IntKind.wrap .i64 (Int.tdiv (IntKind.wrap .i64 ((IntKind.wrap .i64 (r0.2.2.2.2.2.2.2.1+r1.2.2.2.2.2.2.2.1))+(IntKind.wrap .i64 (Int.tdiv (IntKind.wrap .i64 ((IntKind.wrap .i64 (r0.2.2.2.2.2.2.1+r1.2.2.2.2.2.2.1))+(IntKind.wrap .i64 (Int.tdiv (IntKind.wrap .i64 ((IntKind.wrap .i64 (r0.2.2.2.2.2.1+r1.2.2.2.2.2.1))+(IntKind.wrap .i64 (Int.tdiv (IntKind.wrap .i64 ((IntKind.wrap .i64 (r0.2.2.2.2.1+r1.2.2.2.2.1))+(IntKind.wrap .i64 (Int.tdiv (IntKind.wrap .i64 ((IntKind.wrap .i64 (r0.2.2.2.1+r1.2.2.2.1))+(IntKind.wrap .i64 (Int.tdiv (IntKind.wrap .i64 ((IntKind.wrap .i64 (r0.2.2.1+r1.2.2.1))+(IntKind.wrap .i64 (Int.tdiv (IntKind.wrap .i64 ((IntKind.wrap .i64 (r0.2.1+r1.2.1))+(IntKind.wrap .i64 (Int.tdiv (IntKind.wrap .i64 ((IntKind.wrap .i64 (r0.1+r1.1))+0)) (256:Int))))) (256:Int))))) (256:Int))))) (256:Int))))) (256:Int))))) (256:Int))))) (256:Int))))) (256:Int))))) (256:Int))))) (256:Int))))) (256:Int))))) (256:Int))))) (256:Int))))) (256:Int))))) (256:Int))))) (256:Int)))))) (
 some ((0,0),1)) (
 a0a (y1g n ((Int.tmod (IntKind.wrap .i64 ((IntKind.wrap .i64 (r0.1+r1.1))+0)) (256:Int)),((Int.tmod (IntKind.wrap .i64 ((IntKind.wrap .i64 (r0.2.1+r1.2.1))+(IntKind.wrap .i64 (Int.tdiv (IntKind.wrap .i64 ((IntKind.wrap .i64 (r0.1+r1.1))+0)) (256:Int))))) (256:Int)),((Int.tmod (IntKind.wrap .i64 ((IntKind.wrap .i64 (r0.2.2.1+r1.2.2.1))+(IntKind.wrap .i64 (Int.tdiv (IntKind.wrap .i64 ((IntKind.wrap .i64 (r0.2.1+r1.2.1))+(IntKind.wrap .i64 (Int.tdiv (IntKind.wrap .i64 ((IntKind.wrap .i64 (r0.1+r1.1))+0)) (256:Int))))) (256:Int))))) (256:Int)),((Int.tmod (IntKind.wrap .i64 ((IntKind.wrap .i64 (r0.2.2.2.1+r1.2.2.2.1))+(IntKind.wrap .i64 (Int.tdiv (IntKind.wrap .i64 ((IntKind.wrap .i64 (r0.2.2.1+r1.2.2.1))+(IntKind.wrap .i64 (Int.tdiv (IntKind.wrap .i64 ((IntKind.wrap .i64 (r0.2.1+r1.2.1))+(IntKind.wrap .i64 (Int.tdiv (IntKind.wrap .i64 ((IntKind.wrap .i64 (r0.1+r1.1))+0)) (256:Int))))) (256:Int))))) (256:Int))))) (256:Int)),((Int.tmod (IntKind.wrap .i64 ((IntKind.wrap .i64 (r0.2.2.2.2.1+r1.2.2.2.2.1))+(IntKind.wrap .i64 (Int.tdiv (IntKind.wrap .i64 ((IntKind.wrap .i64 (r0.2.2.2.1+r1.2.2.2.1))+(IntKind.wrap .i64 (Int.tdiv (IntKind.wrap .i64 ((IntKind.wrap .i64 (r0.2.2.1+r1.2.2.1))+(IntKind.wrap .i64 (Int.tdiv (IntKind.wrap .i64 ((IntKind.wrap .i64 (r0.2.1+r1.2.1))+(IntKind.wrap .i64 (Int.tdiv (IntKind.wrap .i64 ((IntKind.wrap .i64 (r0.1+r1.1))+0)) (256:Int))))) (256:Int))))) (256:Int))))) (256:Int))))) (256:Int)),((Int.tmod (IntKind.wrap .i64 ((IntKind.wrap .i64 (r0.2.2.2.2.2.1+r1.2.2.2.2.2.1))+(IntKind.wrap .i64 (Int.tdiv (IntKind.wrap .i64 ((IntKind.wrap .i64 (r0.2.2.2.2.1+r1.2.2.2.2.1))+(IntKind.wrap .i64 (Int.tdiv (IntKind.wrap .i64 ((IntKind.wrap .i64 (r0.2.2.2.1+r1.2.2.2.1))+(IntKind.wrap .i64 (Int.tdiv (IntKind.wrap .i64 ((IntKind.wrap .i64 (r0.2.2.1+r1.2.2.1))+(IntKind.wrap .i64 (Int.tdiv (IntKind.wrap .i64 ((IntKind.wrap .i64 (r0.2.1+r1.2.1))+(IntKind.wrap .i64 (Int.tdiv (IntKind.wrap .i64 ((IntKind.wrap .i64 (r0.1+r1.1))+0)) (256:Int))))) (256:Int))))) (256:Int))))) (256:Int))))) (256:Int))))) (256:Int)),((Int.tmod (IntKind.wrap .i64 ((IntKind.wrap .i64 (r0.2.2.2.2.2.2.1+r1.2.2.2.2.2.2.1))+(IntKind.wrap .i64 (Int.tdiv (IntKind.wrap .i64 ((IntKind.wrap .i64 (r0.2.2.2.2.2.1+r1.2.2.2.2.2.1))+(IntKind.wrap .i64 (Int.tdiv (IntKind.wrap .i64 ((IntKind.wrap .i64 (r0.2.2.2.2.1+r1.2.2.2.2.1))+(IntKind.wrap .i64 (Int.tdiv (IntKind.wrap .i64 ((IntKind.wrap .i64 (r0.2.2.2.1+r1.2.2.2.1))+(IntKind.wrap .i64 (Int.tdiv (IntKind.wrap .i64 ((IntKind.wrap .i64 (r0.2.2.1+r1.2.2.1))+(IntKind.wrap .i64 (Int.tdiv (IntKind.wrap .i64 ((IntKind.wrap .i64 (r0.2.1+r1.2.1))+(IntKind.wrap .i64 (Int.tdiv (IntKind.wrap .i64 ((IntKind.wrap .i64 (r0.1+r1.1))+0)) (256:Int))))) (256:Int))))) (256:Int))))) (256:Int))))) (256:Int))))) (256:Int))))) (256:Int)),((Int.tmod (IntKind.wrap .i64 ((IntKind.wrap .i64 (r0.2.2.2.2.2.2.2.1+r1.2.2.2.2.2.2.2.1))+(IntKind.wrap .i64 (Int.tdiv (IntKind.wrap .i64 ((IntKind.wrap .i64 (r0.2.2.2.2.2.2.1+r1.2.2.2.2.2.2.1))+(IntKind.wrap .i64 (Int.tdiv (IntKind.wrap .i64 ((IntKind.wrap .i64 (r0.2.2.2.2.2.1+r1.2.2.2.2.2.1))+(IntKind.wrap .i64 (Int.tdiv (IntKind.wrap .i64 ((IntKind.wrap .i64 (r0.2.2.2.2.1+r1.2.2.2.2.1))+(IntKind.wrap .i64 (Int.tdiv (IntKind.wrap .i64 ((IntKind.wrap .i64 (r0.2.2.2.1+r1.2.2.2.1))+(IntKind.wrap .i64 (Int.tdiv (IntKind.wrap .i64 ((IntKind.wrap .i64 (r0.2.2.1+r1.2.2.1))+(IntKind.wrap .i64 (Int.tdiv (IntKind.wrap .i64 ((IntKind.wrap .i64 (r0.2.1+r1.2.1))+(IntKind.wrap .i64 (Int.tdiv (IntKind.wrap .i64 ((IntKind.wrap .i64 (r0.1+r1.1))+0)) (256:Int))))) (256:Int))))) (256:Int))))) (256:Int))))) (256:Int))))) (256:Int))))) (256:Int))))) (256:Int)),((Int.tmod (IntKind.wrap .i64 ((IntKind.wrap .i64 (r0.2.2.2.2.2.2.2.2.1+r1.2.2.2.2.2.2.2.2.1))+(IntKind.wrap .i64 (Int.tdiv (IntKind.wrap .i64 ((IntKind.wrap .i64 (r0.2.2.2.2.2.2.2.1+r1.2.2.2.2.2.2.2.1))+(IntKind.wrap .i64 (Int.tdiv (IntKind.wrap .i64 ((IntKind.wrap .i64 (r0.2.2.2.2.2.2.1+r1.2.2.2.2.2.2.1))+(IntKind.wrap .i64 (Int.tdiv (IntKind.wrap .i64 ((IntKind.wrap .i64 (r0.2.2.2.2.2.1+r1.2.2.2.2.2.1))+(IntKind.wrap .i64 (Int.tdiv (IntKind.wrap .i64 ((IntKind.wrap .i64 (r0.2.2.2.2.1+r1.2.2.2.2.1))+(IntKind.wrap .i64 (Int.tdiv (IntKind.wrap .i64 ((IntKind.wrap .i64 (r0.2.2.2.1+r1.2.2.2.1))+(IntKind.wrap .i64 (Int.tdiv (IntKind.wrap .i64 ((IntKind.wrap .i64 (r0.2.2.1+r1.2.2.1))+(IntKind.wrap .i64 (Int.tdiv (IntKind.wrap .i64 ((IntKind.wrap .i64 (r0.2.1+r1.2.1))+(IntKind.wrap .i64 (Int.tdiv (IntKind.wrap .i64 ((IntKind.wrap .i64 (r0.1+r1.1))+0)) (256:Int))))) (256:Int))))) (256:Int))))) (256:Int))))) (256:Int))))) (256:Int))))) (256:Int))))) (256:Int))))) (256:Int)),((Int.tmod (IntKind.wrap .i64 ((IntKind.wrap .i64 (r0.2.2.2.2.2.2.2.2.2.1+r1.2.2.2.2.2.2.2.2.2.1))+(IntKind.wrap .i64 (Int.tdiv (IntKind.wrap .i64 ((IntKind.wrap .i64 (r0.2.2.2.2.2.2.2.2.1+r1.2.2.2.2.2.2.2.2.1))+(IntKind.wrap .i64 (Int.tdiv (IntKind.wrap .i64 ((IntKind.wrap .i64 (r0.2.2.2.2.2.2.2.1+r1.2.2.2.2.2.2.2.1))+(IntKind.wrap .i64 (Int.tdiv (IntKind.wrap .i64 ((IntKind.wrap .i64 (r0.2.2.2.2.2.2.1+r1.2.2.2.2.2.2.1))+(IntKind.wrap .i64 (Int.tdiv (IntKind.wrap .i64 ((IntKind.wrap .i64 (r0.2.2.2.2.2.1+r1.2.2.2.2.2.1))+(IntKind.wrap .i64 (Int.tdiv (IntKind.wrap .i64 ((IntKind.wrap .i64 (r0.2.2.2.2.1+r1.2.2.2.2.1))+(IntKind.wrap .i64 (Int.tdiv (IntKind.wrap .i64 ((IntKind.wrap .i64 (r0.2.2.2.1+r1.2.2.2.1))+(IntKind.wrap .i64 (Int.tdiv (IntKind.wrap .i64 ((IntKind.wrap .i64 (r0.2.2.1+r1.2.2.1))+(IntKind.wrap .i64 (Int.tdiv (IntKind.wrap .i64 ((IntKind.wrap .i64 (r0.2.1+r1.2.1))+(IntKind.wrap .i64 (Int.tdiv (IntKind.wrap .i64 ((IntKind.wrap .i64 (r0.1+r1.1))+0)) (256:Int))))) (256:Int))))) (256:Int))))) (256:Int))))) (256:Int))))) (256:Int))))) (256:Int))))) (256:Int))))) (256:Int))))) (256:Int)),((Int.tmod (IntKind.wrap .i64 ((IntKind.wrap .i64 (r0.2.2.2.2.2.2.2.2.2.2.1+r1.2.2.2.2.2.2.2.2.2.2.1))+(IntKind.wrap .i64 (Int.tdiv (IntKind.wrap .i64 ((IntKind.wrap .i64 (r0.2.2.2.2.2.2.2.2.2.1+r1.2.2.2.2.2.2.2.2.2.1))+(IntKind.wrap .i64 (Int.tdiv (IntKind.wrap .i64 ((IntKind.wrap .i64 (r0.2.2.2.2.2.2.2.2.1+r1.2.2.2.2.2.2.2.2.1))+(IntKind.wrap .i64 (Int.tdiv (IntKind.wrap .i64 ((IntKind.wrap .i64 (r0.2.2.2.2.2.2.2.1+r1.2.2.2.2.2.2.2.1))+(IntKind.wrap .i64 (Int.tdiv (IntKind.wrap .i64 ((IntKind.wrap .i64 (r0.2.2.2.2.2.2.1+r1.2.2.2.2.2.2.1))+(IntKind.wrap .i64 (Int.tdiv (IntKind.wrap .i64 ((IntKind.wrap .i64 (r0.2.2.2.2.2.1+r1.2.2.2.2.2.1))+(IntKind.wrap .i64 (Int.tdiv (IntKind.wrap .i64 ((IntKind.wrap .i64 (r0.2.2.2.2.1+r1.2.2.2.2.1))+(IntKind.wrap .i64 (Int.tdiv (IntKind.wrap .i64 ((IntKind.wrap .i64 (r0.2.2.2.1+r1.2.2.2.1))+(IntKind.wrap .i64 (Int.tdiv (IntKind.wrap .i64 ((IntKind.wrap .i64 (r0.2.2.1+r1.2.2.1))+(IntKind.wrap .i64 (Int.tdiv (IntKind.wrap .i64 ((IntKind.wrap .i64 (r0.2.1+r1.2.1))+(IntKind.wrap .i64 (Int.tdiv (IntKind.wrap .i64 ((IntKind.wrap .i64 (r0.1+r1.1))+0)) (256:Int))))) (256:Int))))) (256:Int))))) (256:Int))))) (256:Int))))) (256:Int))))) (256:Int))))) (256:Int))))) (256:Int))))) (256:Int))))) (256:Int)),((Int.tmod (IntKind.wrap .i64 ((IntKind.wrap .i64 (r0.2.2.2.2.2.2.2.2.2.2.2.1+r1.2.2.2.2.2.2.2.2.2.2.2.1))+(IntKind.wrap .i64 (Int.tdiv (IntKind.wrap .i64 ((IntKind.wrap .i64 (r0.2.2.2.2.2.2.2.2.2.2.1+r1.2.2.2.2.2.2.2.2.2.2.1))+(IntKind.wrap .i64 (Int.tdiv (IntKind.wrap .i64 ((IntKind.wrap .i64 (r0.2.2.2.2.2.2.2.2.2.1+r1.2.2.2.2.2.2.2.2.2.1))+(IntKind.wrap .i64 (Int.tdiv (IntKind.wrap .i64 ((IntKind.wrap .i64 (r0.2.2.2.2.2.2.2.2.1+r1.2.2.2.2.2.2.2.2.1))+(IntKind.wrap .i64 (Int.tdiv (IntKind.wrap .i64 ((IntKind.wrap .i64 (r0.2.2.2.2.2.2.2.1+r1.2.2.2.2.2.2.2.1))+(IntKind.wrap .i64 (Int.tdiv (IntKind.wrap .i64 ((IntKind.wrap .i64 (r0.2.2.2.2.2.2.1+r1.2.2.2.2.2.2.1))+(IntKind.wrap .i64 (Int.tdiv (IntKind.wrap .i64 ((IntKind.wrap .i64 (r0.2.2.2.2.2.1+r1.2.2.2.2.2.1))+(IntKind.wrap .i64 (Int.tdiv (IntKind.wrap .i64 ((IntKind.wrap .i64 (r0.2.2.2.2.1+r1.2.2.2.2.1))+(IntKind.wrap .i64 (Int.tdiv (IntKind.wrap .i64 ((IntKind.wrap .i64 (r0.2.2.2.1+r1.2.2.2.1))+(IntKind.wrap .i64 (Int.tdiv (IntKind.wrap .i64 ((IntKind.wrap .i64 (r0.2.2.1+r1.2.2.1))+(IntKind.wrap .i64 (Int.tdiv (IntKind.wrap .i64 ((IntKind.wrap .i64 (r0.2.1+r1.2.1))+(IntKind.wrap .i64 (Int.tdiv (IntKind.wrap .i64 ((IntKind.wrap .i64 (r0.1+r1.1))+0)) (256:Int))))) (256:Int))))) (256:Int))))) (256:Int))))) (256:Int))))) (256:Int))))) (256:Int))))) (256:Int))))) (256:Int))))) (256:Int))))) (256:Int))))) (256:Int)),((Int.tmod (IntKind.wrap .i64 ((IntKind.wrap .i64 (r0.2.2.2.2.2.2.2.2.2.2.2.2.1+r1.2.2.2.2.2.2.2.2.2.2.2.2.1))+(IntKind.wrap .i64 (Int.tdiv (IntKind.wrap .i64 ((IntKind.wrap .i64 (r0.2.2.2.2.2.2.2.2.2.2.2.1+r1.2.2.2.2.2.2.2.2.2.2.2.1))+(IntKind.wrap .i64 (Int.tdiv (IntKind.wrap .i64 ((IntKind.wrap .i64 (r0.2.2.2.2.2.2.2.2.2.2.1+r1.2.2.2.2.2.2.2.2.2.2.1))+(IntKind.wrap .i64 (Int.tdiv (IntKind.wrap .i64 ((IntKind.wrap .i64 (r0.2.2.2.2.2.2.2.2.2.1+r1.2.2.2.2.2.2.2.2.2.1))+(IntKind.wrap .i64 (Int.tdiv (IntKind.wrap .i64 ((IntKind.wrap .i64 (r0.2.2.2.2.2.2.2.2.1+r1.2.2.2.2.2.2.2.2.1))+(IntKind.wrap .i64 (Int.tdiv (IntKind.wrap .i64 ((IntKind.wrap .i64 (r0.2.2.2.2.2.2.2.1+r1.2.2.2.2.2.2.2.1))+(IntKind.wrap .i64 (Int.tdiv (IntKind.wrap .i64 ((IntKind.wrap .i64 (r0.2.2.2.2.2.2.1+r1.2.2.2.2.2.2.1))+(IntKind.wrap .i64 (Int.tdiv (IntKind.wrap .i64 ((IntKind.wrap .i64 (r0.2.2.2.2.2.1+r1.2.2.2.2.2.1))+(IntKind.wrap .i64 (Int.tdiv (IntKind.wrap .i64 ((IntKind.wrap .i64 (r0.2.2.2.2.1+r1.2.2.2.2.1))+(IntKind.wrap .i64 (Int.tdiv (IntKind.wrap .i64 ((IntKind.wrap .i64 (r0.2.2.2.1+r1.2.2.2.1))+(IntKind.wrap .i64 (Int.tdiv (IntKind.wrap .i64 ((IntKind.wrap .i64 (r0.2.2.1+r1.2.2.1))+(IntKind.wrap .i64 (Int.tdiv (IntKind.wrap .i64 ((IntKind.wrap .i64 (r0.2.1+r1.2.1))+(IntKind.wrap .i64 (Int.tdiv (IntKind.wrap .i64 ((IntKind.wrap .i64 (r0.1+r1.1))+0)) (256:Int))))) (256:Int))))) (256:Int))))) (256:Int))))) (256:Int))))) (256:Int))))) (256:Int))))) (256:Int))))) (256:Int))))) (256:Int))))) (256:Int))))) (256:Int))))) (256:Int)),((Int.tmod (IntKind.wrap .i64 ((IntKind.wrap .i64 (r0.2.2.2.2.2.2.2.2.2.2.2.2.2.1+r1.2.2.2.2.2.2.2.2.2.2.2.2.2.1))+(IntKind.wrap .i64 (Int.tdiv (IntKind.wrap .i64 ((IntKind.wrap .i64 (r0.2.2.2.2.2.2.2.2.2.2.2.2.1+r1.2.2.2.2.2.2.2.2.2.2.2.2.1))+(IntKind.wrap .i64 (Int.tdiv (IntKind.wrap .i64 ((IntKind.wrap .i64 (r0.2.2.2.2.2.2.2.2.2.2.2.1+r1.2.2.2.2.2.2.2.2.2.2.2.1))+(IntKind.wrap .i64 (Int.tdiv (IntKind.wrap .i64 ((IntKind.wrap .i64 (r0.2.2.2.2.2.2.2.2.2.2.1+r1.2.2.2.2.2.2.2.2.2.2.1))+(IntKind.wrap .i64 (Int.tdiv (IntKind.wrap .i64 ((IntKind.wrap .i64 (r0.2.2.2.2.2.2.2.2.2.1+r1.2.2.2.2.2.2.2.2.2.1))+(IntKind.wrap .i64 (Int.tdiv (IntKind.wrap .i64 ((IntKind.wrap .i64 (r0.2.2.2.2.2.2.2.2.1+r1.2.2.2.2.2.2.2.2.1))+(IntKind.wrap .i64 (Int.tdiv (IntKind.wrap .i64 ((IntKind.wrap .i64 (r0.2.2.2.2.2.2.2.1+r1.2.2.2.2.2.2.2.1))+(IntKind.wrap .i64 (Int.tdiv (IntKind.wrap .i64 ((IntKind.wrap .i64 (r0.2.2.2.2.2.2.1+r1.2.2.2.2.2.2.1))+(IntKind.wrap .i64 (Int.tdiv (IntKind.wrap .i64 ((IntKind.wrap .i64 (r0.2.2.2.2.2.1+r1.2.2.2.2.2.1))+(IntKind.wrap .i64 (Int.tdiv (IntKind.wrap .i64 ((IntKind.wrap .i64 (r0.2.2.2.2.1+r1.2.2.2.2.1))+(IntKind.wrap .i64 (Int.tdiv (IntKind.wrap .i64 ((IntKind.wrap .i64 (r0.2.2.2.1+r1.2.2.2.1))+(IntKind.wrap .i64 (Int.tdiv (IntKind.wrap .i64 ((IntKind.wrap .i64 (r0.2.2.1+r1.2.2.1))+(IntKind.wrap .i64 (Int.tdiv (IntKind.wrap .i64 ((IntKind.wrap .i64 (r0.2.1+r1.2.1))+(IntKind.wrap .i64 (Int.tdiv (IntKind.wrap .i64 ((IntKind.wrap .i64 (r0.1+r1.1))+0)) (256:Int))))) (256:Int))))) (256:Int))))) (256:Int))))) (256:Int))))) (256:Int))))) (256:Int))))) (256:Int))))) (256:Int))))) (256:Int))))) (256:Int))))) (256:Int))))) (256:Int))))) (256:Int)),((Int.tmod (IntKind.wrap .i64 ((IntKind.wrap .i64 (r0.2.2.2.2.2.2.2.2.2.2.2.2.2.2.1+r1.2.2.2.2.2.2.2.2.2.2.2.2.2.2.1))+(IntKind.wrap .i64 (Int.tdiv (IntKind.wrap .i64 ((IntKind.wrap .i64 (r0.2.2.2.2.2.2.2.2.2.2.2.2.2.1+r1.2.2.2.2.2.2.2.2.2.2.2.2.2.1))+(IntKind.wrap .i64 (Int.tdiv (IntKind.wrap .i64 ((IntKind.wrap .i64 (r0.2.2.2.2.2.2.2.2.2.2.2.2.1+r1.2.2.2.2.2.2.2.2.2.2.2.2.1))+(IntKind.wrap .i64 (Int.tdiv (IntKind.wrap .i64 ((IntKind.wrap .i64 (r0.2.2.2.2.2.2.2.2.2.2.2.1+r1.2.2.2.2.2.2.2.2.2.2.2.1))+(IntKind.wrap .i64 (Int.tdiv (IntKind.wrap .i64 ((IntKind.wrap .i64 (r0.2.2.2.2.2.2.2.2.2.2.1+r1.2.2.2.2.2.2.2.2.2.2.1))+(IntKind.wrap .i64 (Int.tdiv (IntKind.wrap .i64 ((IntKind.wrap .i64 (r0.2.2.2.2.2.2.2.2.2.1+r1.2.2.2.2.2.2.2.2.2.1))+(IntKind.wrap .i64 (Int.tdiv (IntKind.wrap .i64 ((IntKind.wrap .i64 (r0.2.2.2.2.2.2.2.2.1+r1.2.2.2.2.2.2.2.2.1))+(IntKind.wrap .i64 (Int.tdiv (IntKind.wrap .i64 ((IntKind.wrap .i64 (r0.2.2.2.2.2.2.2.1+r1.2.2.2.2.2.2.2.1))+(IntKind.wrap .i64 (Int.tdiv (IntKind.wrap .i64 ((IntKind.wrap .i64 (r0.2.2.2.2.2.2.1+r1.2.2.2.2.2.2.1))+(IntKind.wrap .i64 (Int.tdiv (IntKind.wrap .i64 ((IntKind.wrap .i64 (r0.2.2.2.2.2.1+r1.2.2.2.2.2.1))+(IntKind.wrap .i64 (Int.tdiv (IntKind.wrap .i64 ((IntKind.wrap .i64 (r0.2.2.2.2.1+r1.2.2.2.2.1))+(IntKind.wrap .i64 (Int.tdiv (IntKind.wrap .i64 ((IntKind.wrap .i64 (r0.2.2.2.1+r1.2.2.2.1))+(IntKind.wrap .i64 (Int.tdiv (IntKind.wrap .i64 ((IntKind.wrap .i64 (r0.2.2.1+r1.2.2.1))+(IntKind.wrap .i64 (Int.tdiv (IntKind.wrap .i64 ((IntKind.wrap .i64 (r0.2.1+r1.2.1))+(IntKind.wrap .i64 (Int.tdiv (IntKind.wrap .i64 ((IntKind.wrap .i64 (r0.1+r1.1))+0)) (256:Int))))) (256:Int))))) (256:Int))))) (256:Int))))) (256:Int))))) (256:Int))))) (256:Int))))) (256:Int))))) (256:Int))))) (256:Int))))) (256:Int))))) (256:Int))))) (256:Int))))) (256:Int))))) (256:Int)),(Int.tmod (IntKind.wrap .i64 ((IntKind.wrap .i64 (r0.2.2.2.2.2.2.2.2.2.2.2.2.2.2.2+r1.2.2.2.2.2.2.2.2.2.2.2.2.2.2.2))+(IntKind.wrap .i64 (Int.tdiv (IntKind.wrap .i64 ((IntKind.wrap .i64 (r0.2.2.2.2.2.2.2.2.2.2.2.2.2.2.1+r1.2.2.2.2.2.2.2.2.2.2.2.2.2.2.1))+(IntKind.wrap .i64 (Int.tdiv (IntKind.wrap .i64 ((IntKind.wrap .i64 (r0.2.2.2.2.2.2.2.2.2.2.2.2.2.1+r1.2.2.2.2.2.2.2.2.2.2.2.2.2.1))+(IntKind.wrap .i64 (Int.tdiv (IntKind.wrap .i64 ((IntKind.wrap .i64 (r0.2.2.2.2.2.2.2.2.2.2.2.2.1+r1.2.2.2.2.2.2.2.2.2.2.2.2.1))+(IntKind.wrap .i64 (Int.tdiv (IntKind.wrap .i64 ((IntKind.wrap .i64 (r0.2.2.2.2.2.2.2.2.2.2.2.1+r1.2.2.2.2.2.2.2.2.2.2.2.1))+(IntKind.wrap .i64 (Int.tdiv (IntKind.wrap .i64 ((IntKind.wrap .i64 (r0.2.2.2.2.2.2.2.2.2.2.1+r1.2.2.2.2.2.2.2.2.2.2.1))+(IntKind.wrap .i64 (Int.tdiv (IntKind.wrap .i64 ((IntKind.wrap .i64 (r0.2.2.2.2.2.2.2.2.2.1+r1.2.2.2.2.2.2.2.2.2.1))+(IntKind.wrap .i64 (Int.tdiv (IntKind.wrap .i64 ((IntKind.wrap .i64 (r0.2.2.2.2.2.2.2.2.1+r1.2.2.2.2.2.2.2.2.1))+(IntKind.wrap .i64 (Int.tdiv (IntKind.wrap .i64 ((IntKind.wrap .i64 (r0.2.2.2.2.2.2.2.1+r1.2.2.2.2.2.2.2.1))+(IntKind.wrap .i64 (Int.tdiv (IntKind.wrap .i64 ((IntKind.wrap .i64 (r0.2.2.2.2.2.2.1+r1.2.2.2.2.2.2.1))+(IntKind.wrap .i64 (Int.tdiv (IntKind.wrap .i64 ((IntKind.wrap .i64 (r0.2.2.2.2.2.1+r1.2.2.2.2.2.1))+(IntKind.wrap .i64 (Int.tdiv (IntKind.wrap .i64 ((IntKind.wrap .i64 (r0.2.2.2.2.1+r1.2.2.2.2.1))+(IntKind.wrap .i64 (Int.tdiv (IntKind.wrap .i64 ((IntKind.wrap .i64 (r0.2.2.2.1+r1.2.2.2.1))+(IntKind.wrap .i64 (Int.tdiv (IntKind.wrap .i64 ((IntKind.wrap .i64 (r0.2.2.1+r1.2.2.1))+(IntKind.wrap .i64 (Int.tdiv (IntKind.wrap .i64 ((IntKind.wrap .i64 (r0.2.1+r1.2.1))+(IntKind.wrap .i64 (Int.tdiv (IntKind.wrap .i64 ((IntKind.wrap .i64 (r0.1+r1.1))+0)) (256:Int))))) (256:Int))))) (256:Int))))) (256:Int))))) (256:Int))))) (256:Int))))) (256:Int))))) (256:Int))))) (256:Int))))) (256:Int))))) (256:Int))))) (256:Int))))) (256:Int))))) (256:Int))))) (256:Int))))) (256:Int)))))))))))))))))) fun r2 =>
 some (r2,0)):=by kernel_rfl
end Go.Proofs.YtagnkfbpgkckiaaGreat
