/- Trees, printed by program. -/
import Derived.Test.YtmcgmijdnfcfgaaTr0
import Derived.KernelRfl
set_option linter.unusedVariables false
namespace Go.Proofs.Ytmcgmijdnfcfgaa
open Go.Flat
theorem r0c (n:Nat) (c:b0a):e0c (n+1) c =
 a0c (g0f n c) fun r0 =>
 tif ((!(decide (r0=0)))) (
 some (0,r0)) (
 a0c (f0k n c) fun r1 =>
 a0c (q0j n c) fun r2 =>
 tif ((decide ((16777216:Int)<(IntKind.wrap .i64 ((IntKind.wrap .i64 (r1+1))+(IntKind.wrap .i64 (c.2.2.2.1*r2))))))) (
 some (0,1)) (
 some ((IntKind.wrap .i64 ((IntKind.wrap .i64 (r1+1))+(IntKind.wrap .i64 (c.2.2.2.1*r2)))),0))):=by kernel_rfl
theorem c1j (n:Nat) (n_:Int):p0e (n+1) n_ =
 tif ((decide (n_<1))) (
 some (none,1)) (
 tif ((decide ((16777216:Int)<n_))) (
 some (none,1)) (
 a0c (strings_Repeat n ((0:UInt8)::[]) (512:Int)) fun r0 =>
 a0c (g0w n (r0::[]) n_) fun r1 =>
 some ((some (r1,([],(0,false)))),0))):=by kernel_rfl
theorem u0e (n:Nat) (d:a0f) (c:b0a) (home:(List (List UInt8))):i0l (n+2) d c home =
 a0c (e0c n c) fun r0 =>
 tif ((!(decide (r0.2=0)))) (
 some (2,d)) (
 a0c (c0y n d) fun r1 =>
 tif ((!(decide (r0.1=r1)))) (
 some (2,d)) (
 a0c (f0k n c) fun r2 =>
 a0c (g0e n c) fun r3 =>
 a0c (c0y (n+1) d) fun r4 =>
 tif ((!(decide ((((List.length home):Nat):Int)=(IntKind.wrap .i64 (r4-r2)))))) (
 some (1,d)) (
 a0c (d0u (n+1) home (fun y5=>o0n (n+1) y5.1)) fun r6 =>
 tif (r6) (
 some (1,d)) (
 a0c (g0j (n+1) a0b (d,(((),(c,(r2,(IntKind.wrap .i64 ((1:Int)+r3))))),([],(home,((((List.length home):Nat):Int),(0,()))))))) fun r7 =>
 f0v (fun y8 =>
 tif ((decide (1≤(List.length y8.2.2.1)))) (
 a0c (d0y (n+1) (1:Int) (0:Int)) fun r9 =>
 a0c (at? y8.2.2.1 (0:Int)) fun r10 =>
 a0c ((y8.2.2.1)[0]?) fun r11 =>
 a0c (d0t (n+1) (y8.1,y8.2.1.2) ((List.take ((List.length y8.2.2.1)-1) (List.drop 1 y8.2.2.1))::((r9::(r11::[]))::[]))) fun r12 =>
 some (r12.1,r12.2.1)) (
 none)) (fun z13 =>
 some z13) r7)))):=by kernel_rfl
theorem j0t (n f:Nat) (d:a0f) (g:(Unit×(b0a×(Int×Int)))) (l:(List (Int×List UInt8))) (s38:(List (List UInt8))) (s39:Int) (s40:Int):g0j n (f+1) (d,g,l,s38,s39,s40,()) =
 tif ((decide (s40<s39))) (
 a0c (at? s38 s40) fun r0 =>
 tif ((decide ((((List.length l)+1)*24)≤140737488355328))) (
 g0j n f (d,(((),g.2),((l++(((IntKind.wrap .i64 (g.2.2.1+s40)),r0)::[])),(s38,(s39,((IntKind.wrap .i64 (s40+1)),()))))))) (
 none)) (
 some (.inl (d,(((),g.2),(l,()))))):=by kernel_rfl
theorem z0n (n:Nat) (c:b0a) (by_:Int):j0x (n+1) c by_ =
 a0c (e0c n c) fun r0 =>
 tif ((!(decide (r0.2=0)))) (
 some []) (
 a0c (f0k n c) fun r1 =>
 a0c (j0d n a0b (by_,([],((IntKind.wrap .i64 (r0.1-r1)),(0,()))))) fun r2 =>
 f0v (fun y3 =>
 some y3.1) (fun z4 =>
 some z4) r2):=by kernel_rfl
theorem m0f (n f:Nat) (by_:Int) (out:(List (List UInt8))) (s19:Int) (s20:Int):j0d n (f+1) (by_,out,s19,s20,()) =
 tif ((decide (s20<s19))) (
 a0c (g0l n (IntKind.wrap .u8 (by_+(IntKind.wrap .u8 s20)))) fun r0 =>
 tif ((decide ((((List.length out)+1)*16)≤140737488355328))) (
 j0d n f (by_,((out++(r0::[])),(s19,((IntKind.wrap .i64 (s20+1)),()))))) (
 none)) (
 some (.inl (out,()))):=by kernel_rfl
theorem a1a (n:Nat) (c:b0a):f0k (n+1) c =
 a0c (g0f n c) fun r0 =>
 tif ((!(decide (r0=0)))) (
 some (0:Int)) (
 a0c (g0e n c) fun r1 =>
 some (IntKind.wrap .i64 ((IntKind.wrap .i64 ((1:Int)+r1))+c.2.2.2.2))):=by kernel_rfl
theorem r0k (n:Nat) (d:a0f) (n_:Int):p0g (n+1) d n_ =
 some (d.1,(d.2.1,((if n_<0 then (0:Int) else n_),d.2.2.2))):=by kernel_rfl
theorem u0f (n:Nat) (d:a0f) (c:b0a) (l:(List (Int×List UInt8))):b0l (n+2) d c l =
 a0c (e0c n c) fun r0 =>
 tif ((!(decide (r0.2=0)))) (
 some (2,d)) (
 a0c (c0y n d) fun r1 =>
 tif ((!(decide (r0.1=r1)))) (
 some (2,d)) (
 a0c (f0k n c) fun r2 =>
 a0c (g0e n c) fun r3 =>
 tif ((decide (c.2.2.2.2<(((List.length l):Nat):Int)))) (
 some (1,d)) (
 a0c (d0v (n+1) l (fun y4=>o0o (n+1) y4.1 (d,(c,(r2,(IntKind.wrap .i64 ((1:Int)+r3))))))) fun r5 =>
 tif (r5) (
 some (1,d)) (
 a0c (c0h (n+1) d) fun r6 =>
 tif ((!(decide (r6.2.2.1=0)))) (
 some r6.2.2) (
 tif ((decide ((0:Int)<r6.2.1))) (
 some (7,r6.2.2.2)) (
 tif ((decide ((((List.length l):Nat):Int)=0))) (
 some (0,r6.2.2.2)) (
 a0c (j0n (n+1) (r6.2.2.2,(c,(r2,(IntKind.wrap .i64 ((1:Int)+r3))))) l) fun r7 =>
 a0c (j0o (n+1) r7.2 l) fun r8 =>
 tif ((decide ((((List.length r7.1)+(List.length r8.1))*24)≤140737488355328))) (
 a0c (d0y (n+1) (IntKind.wrap .u64 (r6.1+1)) (((List.length l):Nat):Int)) fun r9 =>
 a0c (d0y (n+1) (IntKind.wrap .u64 (r6.1+1)) (0:Int)) fun r10 =>
 a0c (d0t (n+1) r8.2 ((r7.1++r8.1)::((r9::[])::(l::((r10::[])::[]))))) fun r11 =>
 some (r11.1,r11.2.1)) (
 none)))))))):=by kernel_rfl
theorem u0i (n:Nat) (l:(List (Int×Int))):b0x (n+1) l =
 a0c (g0m n a0b ([],(l,((((List.length l):Nat):Int),(0,()))))) fun r0 =>
 f0v (fun y1 =>
 some y1.1) (fun z2 =>
 some z2) r0:=by kernel_rfl
theorem j0y (n f:Nat) (out:(List (Int×List UInt8))) (s6:(List (Int×Int))) (s7:Int) (s8:Int):g0m n (f+1) (out,s6,s7,s8,()) =
 tif ((decide (s8<s7))) (
 a0c (at? s6 s8) fun r0 =>
 a0c (g0l n r0.2) fun r1 =>
 tif ((decide ((((List.length out)+1)*24)≤140737488355328))) (
 g0m n f ((out++((r0.1,r1)::[])),(s6,(s7,((IntKind.wrap .i64 (s8+1)),()))))) (
 none)) (
 some (.inl (out,()))):=by kernel_rfl
theorem s0p (n:Nat) (d:a0f) (c:b0a):e0x (n+2) d c =
 a0c (e0c n c) fun r0 =>
 tif ((!(decide (r0.2=0)))) (
 some (0,(2,d))) (
 a0c (c0y n d) fun r1 =>
 tif ((!(decide (r0.1=r1)))) (
 some (0,(2,d))) (
 a0c (f0k n c) fun r2 =>
 a0c (g0e n c) fun r3 =>
 a0c (c0h (n+1) d) fun r4 =>
 tif ((!(decide (r4.2.2.1=0)))) (
 some (0,r4.2.2)) (
 tif ((decide (r4.2.1=0))) (
 some (0,(0,r4.2.2.2))) (
 tif ((decide (c.2.2.2.2<r4.2.1))) (
 some (0,(4,r4.2.2.2))) (
 a0c (e0u (n+1) a0b (r4.2.2.2,(((),(c,(r2,(IntKind.wrap .i64 ((1:Int)+r3))))),(r4.1,(r4.2.1,([],(r4.2.1,(0,())))))))) fun r5 =>
 f0v (fun y6 =>
 a0c (d0y (n+1) y6.2.2.1 (0:Int)) fun r7 =>
 a0c (d0t (n+1) (y6.1,y6.2.1.2) (y6.2.2.2.2.1::((r7::[])::[]))) fun r8 =>
 tif ((!(decide (r8.1=0)))) (
 some (0,(r8.1,r8.2.1))) (
 some (y6.2.2.2.1,(0,r8.2.1)))) (fun z9 =>
 some z9) r5))))):=by kernel_rfl
theorem i0j (n f:Nat) (d:a0f) (g:(Unit×(b0a×(Int×Int)))) (number:Int) (many:Int) (l:(List (Int×List UInt8))) (s42:Int) (s43:Int):e0u n (f+1) (d,g,number,many,l,s42,s43,()) =
 tif ((decide (s43<s42))) (
 a0c (l0v n (d,g.2) s43) fun r0 =>
 tif ((!(decide (r0.2.1=0)))) (
 some (.inr (0,(r0.2.1,r0.2.2.1)))) (
 tif ((decide ((((List.length l)+1)*24)≤140737488355328))) (
 e0u n f (r0.2.2.1,(((),r0.2.2.2),(number,(many,((l++(r0.1::[])),(s42,((IntKind.wrap .i64 (s43+1)),())))))))) (
 none))) (
 some (.inl (d,(((),g.2),(number,(many,(l,()))))))):=by kernel_rfl
theorem t0p (n:Nat) (d:a0f) (keep:(List Bool)):e0z (n+1) d keep =
 a0c (g0o n (d.1,(d.2.1,(0,false))) (fun y0=>j0s n y0.1 keep)) fun r1 =>
 some r1:=by kernel_rfl
theorem y0o (n:Nat) (d:a0f) (c:b0a):b0u (n+2) d c =
 a0c (e0c n c) fun r0 =>
 tif ((!(decide (r0.2=0)))) (
 some ([],(2,d))) (
 a0c (c0y n d) fun r1 =>
 tif ((!(decide (r0.1=r1)))) (
 some ([],(2,d))) (
 a0c (f0k n c) fun r2 =>
 a0c (g0e n c) fun r3 =>
 a0c (j0b (n+1) a0b (d,(((),(c,(r2,(IntKind.wrap .i64 ((1:Int)+r3))))),([],(r2,()))))) fun r4 =>
 f0v (fun y5 =>
 some (y5.2.1,(0,y5.1))) (fun z6 =>
 some z6) r4)):=by kernel_rfl
theorem i0k (n f:Nat) (d:a0f) (g:(Unit×(b0a×(Int×Int)))) (out:(List (List UInt8))) (i:Int):j0b n (f+1) (d,g,out,i,()) =
 a0c (c0y n d) fun r0 =>
 tif ((decide (i<r0))) (
 a0c (d0e n d i) fun r1 =>
 tif ((!(decide (r1.2.1=0)))) (
 some (.inr ([],r1.2))) (
 tif ((decide ((((List.length out)+1)*16)≤140737488355328))) (
 j0b n f (r1.2.2,(((),g.2),((out++(r1.1::[])),((IntKind.wrap .i64 (i+1)),()))))) (
 none))) (
 some (.inl (d,(out,())))):=by kernel_rfl
theorem s0t (n:Nat) (a:(List (List UInt8))) (b:(List (List UInt8))):c0c (n+1) a b =
 tif ((!(decide ((((List.length a):Nat):Int)=(((List.length b):Nat):Int))))) (
 some false) (
 a0c (f0x n a0b (a,(b,((((List.length a):Nat):Int),(0,()))))) fun r0 =>
 f0v (fun y1 =>
 some true) (fun z2 =>
 some z2) r0):=by kernel_rfl
theorem g0k (n f:Nat) (a:(List (List UInt8))) (b:(List (List UInt8))) (s12:Int) (s13:Int):f0x n (f+1) (a,b,s12,s13,()) =
 tif ((decide (s13<s12))) (
 a0c (at? a s13) fun r0 =>
 a0c (at? b s13) fun r1 =>
 tif ((!(r0==r1))) (
 some (.inr false)) (
 f0x n f (a,(b,(s12,((IntKind.wrap .i64 (s13+1)),())))))) (
 some (.inl ())):=by kernel_rfl
theorem s0q (n:Nat) (d:a0f):c0h (n+1) d =
 a0c (d0e n d (0:Int)) fun r0 =>
 tif ((!(decide (r0.2.1=0)))) (
 some (0,(0,r0.2))) (
 a0c (q0k n r0.1) fun r1 =>
 a0c (h0b n r1 (4:Int)) fun r2 =>
 a0c (d0b n r2.2 (8:Int)) fun r3 =>
 a0c (d0b n r3.2 (4:Int)) fun r4 =>
 a0c (d0y n r3.1 (IntKind.wrap .i64 r4.1)) fun r5 =>
 tif ((!(r5.2==r0.1))) (
 some (0,(0,(4,r0.2.2)))) (
 some (r3.1,((IntKind.wrap .i64 r4.1),(0,r0.2.2))))):=by kernel_rfl
theorem f1m (n:Nat)  : b1p (n+1)  =
 some (20,((10,(20,60)),((4,(5,6)),(3,9)))):=by kernel_rfl
theorem p0i (n:Nat) (c:b0a):g0f (n+1) c =
 a0c (e0b n c.1 (1:Int) (4096:Int)) fun r0 =>
 tif (r0) (
 a0c (e0b n c.2.2.2.1 (1:Int) (65536:Int)) fun r1 =>
 tif (r1) (
 a0c (e0b n c.2.2.2.2 (1:Int) (8192:Int)) fun r2 =>
 tif (r2) (
 a0c (f0j n c.2.1.1 (1:Int) (1099511627776:Int)) fun r3 =>
 tif (r3) (
 a0c (e0b n c.2.2.1.1 (1:Int) (4096:Int)) fun r4 =>
 tif (r4) (
 a0c (f0j n c.2.1.2.1 (1:Int) (1099511627776:Int)) fun r5 =>
 tif (r5) (
 a0c (e0b n c.2.2.1.2.1 (1:Int) (4096:Int)) fun r6 =>
 tif (r6) (
 a0c (f0j n c.2.1.2.2 (1:Int) (1099511627776:Int)) fun r7 =>
 tif (r7) (
 a0c (e0b n c.2.2.1.2.2 (1:Int) (4096:Int)) fun r8 =>
 tif (r8) (
 tif ((decide (c.2.1.1=0))) (
 none) (
 tif ((decide ((Int.tmod c.2.1.2.1 c.2.1.1)=0))) (
 tif ((decide (c.2.1.1=0))) (
 none) (
 tif ((decide ((IntKind.wrap .i64 (Int.tdiv c.2.1.2.1 c.2.1.1))≤c.2.2.1.1))) (
 tif ((decide (c.2.1.2.1=0))) (
 none) (
 tif ((decide ((Int.tmod c.2.1.2.2 c.2.1.2.1)=0))) (
 tif ((decide (c.2.1.2.1=0))) (
 none) (
 tif ((decide ((IntKind.wrap .i64 (Int.tdiv c.2.1.2.2 c.2.1.2.1))≤c.2.2.1.2.1))) (
 tif ((!(decide ((IntKind.wrap .i64 (Int.tdiv c.2.1.2.2 c.2.1.2.1))≤c.2.2.1.2.1)))) (
 some (2:Int)) (
 a0c (g0c n c) fun r9 =>
 tif ((decide (c.2.2.2.2≤r9))) (
 some (2:Int)) (
 some (0:Int)))) (
 tif ((!(decide ((IntKind.wrap .i64 (Int.tdiv c.2.1.2.2 c.2.1.2.1))≤c.2.2.1.2.1)))) (
 some (2:Int)) (
 a0c (g0c n c) fun r10 =>
 tif ((decide (c.2.2.2.2≤r10))) (
 some (2:Int)) (
 some (0:Int)))))) (
 some (2:Int)))) (
 tif ((!(decide ((IntKind.wrap .i64 (Int.tdiv c.2.1.2.1 c.2.1.1))≤c.2.2.1.1)))) (
 some (2:Int)) (
 a0c (g0c n c) fun r11 =>
 tif ((decide (c.2.2.2.2≤r11))) (
 some (2:Int)) (
 some (0:Int)))))) (
 some (2:Int)))) (
 tif ((!r8)) (
 some (2:Int)) (
 a0c (g0c n c) fun r12 =>
 tif ((decide (c.2.2.2.2≤r12))) (
 some (2:Int)) (
 some (0:Int))))) (
 some (2:Int))) (
 some (2:Int))) (
 some (2:Int))) (
 some (2:Int))) (
 some (2:Int))) (
 some (2:Int))) (
 some (2:Int))) (
 some (2:Int)):=by kernel_rfl
theorem y0e (n:Nat) (c:b0a):q0j (n+1) c =
 a0c (g0f n c) fun r0 =>
 tif ((!(decide (r0=0)))) (
 some (0:Int)) (
 a0c (g0c n c) fun r1 =>
 some r1):=by kernel_rfl
theorem n0v (n:Nat) (x:(List (List UInt8))) (count:Int):g0w (n+1) x count =
 tif ((decide (count<0))) (
 none) (
 a0c (k0t n (IntKind.wrap .u64 (((List.length x):Nat):Int)) (IntKind.wrap .u64 count)) fun r0 =>
 tif ((decide ((0:Int)<r0.1))) (
 none) (
 tif ((decide ((9223372036854775807:Int)<r0.2))) (
 none) (
 tif (((decide ((0:Int)≤(IntKind.wrap .i64 r0.2)))&&((decide ((IntKind.wrap .i64 r0.2)≤(IntKind.wrap .i64 r0.2)))&&(decide (((IntKind.wrap .i64 r0.2)*16)≤140737488355328))))) (
 a0c (d0o n a0b ((Go.Flat.putRow (List.replicate (Int.toNat (IntKind.wrap .i64 r0.2)) ([]:List UInt8)) 0 (List.take (List.length (List.replicate (Int.toNat (IntKind.wrap .i64 r0.2)) ([]:List UInt8))) x)),((((List.length (List.take (List.length (List.replicate (Int.toNat (IntKind.wrap .i64 r0.2)) ([]:List UInt8))) x)):Nat):Int),()))) fun r1 =>
 f0v (fun y2 =>
 some y2.1) (fun z3 =>
 some z3) r1) (
 none)))):=by kernel_rfl
theorem f0o (n f:Nat) (newslice:(List (List UInt8))) (n_:Int):d0o n (f+1) (newslice,n_,()) =
 tif ((decide (n_<(((List.length newslice):Nat):Int)))) (
 tif ((decide ((0:Int)≤n_))) (
 tif ((decide ((Int.toNat n_)≤(List.length newslice)))) (
 tif (((decide ((0:Int)≤n_))&&(decide (n_≤(((List.length newslice):Nat):Int))))) (
 tif ((decide (((Int.toNat n_)+((List.length newslice)-(Int.toNat n_)))≤(List.length newslice)))) (
 d0o n f ((Go.Flat.putRow newslice (Int.toNat n_) (List.take ((List.length newslice)-(Int.toNat n_)) (List.take ((Int.toNat n_)-0) (List.drop 0 newslice)))),((IntKind.wrap .i64 (n_+(((List.length (List.take ((List.length newslice)-(Int.toNat n_)) (List.take ((Int.toNat n_)-0) (List.drop 0 newslice)))):Nat):Int))),()))) (
 none)) (
 none)) (
 none)) (
 none)) (
 some (.inl (newslice,()))):=by kernel_rfl
theorem b0c (n:Nat) (d:a0f):c0y (n+1) d =
 some (((List.length d.1):Nat):Int):=by kernel_rfl
theorem r0h (n:Nat) (s:List UInt8):o0n (n+1) s =
 some (!(decide ((((List.length s):Nat):Int)=512))):=by kernel_rfl
theorem p0r (n:Nat) (g:a0n) (all:(List (List (Int×List UInt8)))):d0t (n+1) g all =
 a0c (e0i n a0b (g,(all,((((List.length all):Nat):Int),(0,()))))) fun r0 =>
 f0v (fun y1 =>
 some (0,y1.1)) (fun z2 =>
 some z2) r0:=by kernel_rfl
theorem h0m (n f:Nat) (g:a0n) (s8:(List (List (Int×List UInt8)))) (s9:Int) (s10:Int):e0i n (f+1) (g,s8,s9,s10,()) =
 tif ((decide (s10<s9))) (
 a0c (at? s8 s10) fun r0 =>
 a0c (k0p n g r0) fun r1 =>
 tif ((!(decide (r1.1=0)))) (
 some (.inr r1)) (
 e0i n f (r1.2,(s8,(s9,((IntKind.wrap .i64 (s10+1)),())))))) (
 some (.inl (g,()))):=by kernel_rfl
theorem s0m (n:Nat) (number:Int) (many:Int):d0y (n+1) number many =
 a0c (l0j n [] ((114:UInt8)::((101:UInt8)::((100:UInt8)::((111:UInt8)::[]))))) fun r0 =>
 a0c (d0a n r0 (8:Int) number) fun r1 =>
 a0c (d0a n r1 (4:Int) (IntKind.wrap .u64 many)) fun r2 =>
 a0c (h0a n r2) fun r3 =>
 a0c (r0r n r3.1) fun r4 =>
 some (0,r4):=by kernel_rfl
theorem y0f (n:Nat) (c:b0a):g0e (n+1) c =
 a0c (g0f n c) fun r0 =>
 tif ((!(decide (r0=0)))) (
 some (0:Int)) (
 a0c (g0d n c.2.2.2.2 (120:Int)) fun r1 =>
 some r1):=by kernel_rfl
theorem j0l (n:Nat) (s:(List (Int×List UInt8))) (f_:(((Int×List UInt8)×Unit)→Option Bool)):d0v (n+1) s f_ =
 a0c (i0e n s f_) fun r0 =>
 some (decide ((0:Int)≤r0)):=by kernel_rfl
theorem r0i (n:Nat) (x:(Int×List UInt8)) (p1:a0n):o0o (n+1) x p1 =
 a0c (j0a n p1 x) fun r0 =>
 some (!r0):=by kernel_rfl
theorem s0o (n:Nat) (g:a0n) (x:(Int×List UInt8)):j0a (n+1) g x =
 tif ((decide (g.2.2.1≤x.1))) (
 a0c (c0y n g.1) fun r0 =>
 tif ((decide (x.1<r0))) (
 some (decide ((((List.length x.2):Nat):Int)=512))) (
 some false)) (
 some false):=by kernel_rfl
theorem p0q (n:Nat) (g:a0n) (l:(List (Int×List UInt8))):j0n (n+1) g l =
 a0c (l0s n l) fun r0 =>
 a0c (e0h n a0b (g,(r0,((((List.length r0):Nat):Int),(0,()))))) fun r1 =>
 f0v (fun y2 =>
 some (y2.2.1,y2.1)) (fun z3 =>
 some z3) r1:=by kernel_rfl
theorem h0h (n f:Nat) (g:a0n) (out:(List (Int×List UInt8))) (s10:Int) (s11:Int):e0h n (f+1) (g,out,s10,s11,()) =
 tif ((decide (s11<s10))) (
 a0c (at? out s11) fun r0 =>
 a0c ((out)[(Int.toNat s11)]?) fun r1 =>
 e0h n f (g,((List.set out (Int.toNat s11) ((IntKind.wrap .i64 (g.2.2.2+s11)),r1.2)),(s10,((IntKind.wrap .i64 (s11+1)),()))))) (
 some (.inl (g,(out,())))):=by kernel_rfl
theorem p0s (n:Nat) (g:a0n) (l:(List (Int×List UInt8))):j0o (n+1) g l =
 a0c (i0f n l (120:Int)) fun r0 =>
 a0c (e0j n r0 (g,([],()))) fun r1 =>
 some (r1.2.1,r1.1):=by kernel_rfl
theorem l0w (n:Nat) (x:(a0n×((List (Int×List UInt8))×Unit))):e0j n [] x=some x:=by kernel_rfl
theorem l0o (n:Nat) (y:((List (Int×List UInt8))×Unit)) (r:List ((List (Int×List UInt8))×Unit)) (g:a0n) (out:(List (Int×List UInt8))):e0j n (y::r) (g,out,()) =
 a0c (a0c (e0k n a0b (g,(out,([],(y.1,((((List.length y.1):Nat):Int),(0,()))))))) fun r0 =>
 f0v (fun y1 =>
 a0c (h0a n y1.2.2.1) fun r2 =>
 a0c (r0r n r2.1) fun r3 =>
 tif ((decide ((((List.length y1.2.1)+1)*24)≤140737488355328))) (
 some (y1.1,((y1.2.1++(((IntKind.wrap .i64 ((1:Int)+(((List.length y1.2.1):Nat):Int))),r3)::[])),()))) (
 none)) (fun z4 =>
 none) r0) fun r5 =>
 e0j n r r5:=by kernel_rfl
theorem h0o (n f:Nat) (g:a0n) (out:(List (Int×List UInt8))) (w:(List Int)) (s13:(List (Int×List UInt8))) (s14:Int) (s15:Int):e0k n (f+1) (g,out,w,s13,s14,s15,()) =
 tif ((decide (s15<s14))) (
 a0c (at? s13 s15) fun r0 =>
 a0c (d0a n w (4:Int) (IntKind.wrap .u64 r0.1)) fun r1 =>
 e0k n f (g,(out,(r1,(s13,(s14,((IntKind.wrap .i64 (s15+1)),()))))))) (
 some (.inl (g,(out,(w,()))))):=by kernel_rfl
theorem s0n (n:Nat) (g:a0n) (i:Int):l0v (n+1) g i =
 a0c (d0e n g.1 (IntKind.wrap .i64 ((1:Int)+(IntKind.wrap .i64 (Int.tdiv i (120:Int)))))) fun r0 =>
 a0c (d0e n r0.2.2 (IntKind.wrap .i64 (g.2.2.2+i))) fun r1 =>
 tif ((!(decide (r0.2.1=0)))) (
 some ((0,[]),((if r0.2.1<r1.2.1 then r1.2.1 else r0.2.1),(r1.2.2,g.2)))) (
 tif ((!(decide (r1.2.1=0)))) (
 some ((0,[]),((if r0.2.1<r1.2.1 then r1.2.1 else r0.2.1),(r1.2.2,g.2)))) (
 tif ((decide ((0:Int)≤(IntKind.wrap .i64 ((4:Int)*(Int.tmod i (120:Int))))))) (
 tif ((decide ((Int.toNat (IntKind.wrap .i64 ((4:Int)*(Int.tmod i (120:Int)))))≤(List.length r0.1)))) (
 a0c (q0k n (List.drop (Int.toNat (IntKind.wrap .i64 ((4:Int)*(Int.tmod i (120:Int))))) (List.take (List.length r0.1) r0.1))) fun r2 =>
 a0c (d0b n r2 (4:Int)) fun r3 =>
 a0c (j0a n (r1.2.2,g.2) ((IntKind.wrap .i64 r3.1),r1.1)) fun r4 =>
 tif ((!r4)) (
 some ((0,[]),(4,(r1.2.2,g.2)))) (
 some (((IntKind.wrap .i64 r3.1),r1.1),(0,(r1.2.2,g.2))))) (
 none)) (
 none))):=by kernel_rfl
theorem q0f (n:Nat) (d:a0f) (is:((Int×Unit)→Option Bool)):g0o (n+1) d is =
 a0c (d0g n a0b (d,(is,(0,((((List.length d.2.1):Nat):Int),(0,())))))) fun r0 =>
 f0v (fun y1 =>
 some (y1.2.1,(y1.1.1,([],y1.1.2.2)))) (fun z2 =>
 some z2) r0:=by kernel_rfl
theorem h0q (n f:Nat) (d:a0f) (is:((Int×Unit)→Option Bool)) (n_:Int) (s12:Int) (s13:Int):d0g n (f+1) (d,is,n_,s12,s13,()) =
 tif ((decide (s13<s12))) (
 a0c (at? d.2.1 s13) fun r0 =>
 a0c ((d.2.1)[(Int.toNat s13)]?) fun r1 =>
 a0c (is (s13,())) fun r2 =>
 tif (r2) (
 a0c (at? d.1 r1.1) fun r3 =>
 a0c ((d.1)[(Int.toNat r1.1)]?) fun r4 =>
 d0g n f (((List.set d.1 (Int.toNat r1.1) r1.2),d.2),(is,((IntKind.wrap .i64 (n_+1)),(s12,((IntKind.wrap .i64 (s13+1)),())))))) (
 d0g n f (d,(is,(n_,(s12,((IntKind.wrap .i64 (s13+1)),()))))))) (
 some (.inl (d,(n_,())))):=by kernel_rfl
theorem q0g (n:Nat) (i:Int) (p1:(List Bool)):j0s (n+1) i p1 =
 tif ((decide (i<(((List.length p1):Nat):Int)))) (
 a0c (at? p1 i) fun r0 =>
 some r0) (
 some false):=by kernel_rfl
theorem p0k (n:Nat) (s:List UInt8):q0k (n+1) s =
 some (s,false):=by kernel_rfl
theorem i0t (n:Nat) (r:(List UInt8×Bool)) (n_:Int):h0b (n+1) r n_ =
 tif (r.2) (
 a0c (c0j n r) fun r0 =>
 some ([],r0)) (
 tif ((decide (n_<0))) (
 a0c (c0j n r) fun r1 =>
 some ([],r1)) (
 tif ((decide ((((List.length r.1):Nat):Int)<n_))) (
 a0c (c0j n r) fun r2 =>
 some ([],r2)) (
 tif (((decide ((0:Int)≤n_))&&(decide (n_≤(((List.length r.1):Nat):Int))))) (
 tif ((decide ((0:Int)≤n_))) (
 tif ((decide ((Int.toNat n_)≤(List.length r.1)))) (
 some ((List.drop 0 (List.take (Int.toNat n_) r.1)),((List.drop (Int.toNat n_) (List.take (List.length r.1) r.1)),r.2))) (
 none)) (
 none)) (
 none)))):=by kernel_rfl
theorem m0n (n:Nat) (r:(List UInt8×Bool)) (width:Int):d0b (n+1) r width =
 tif ((decide (width<1))) (
 a0c (c0j n r) fun r0 =>
 some ((0:Int),r0)) (
 tif ((decide ((8:Int)<width))) (
 a0c (c0j n r) fun r1 =>
 some ((0:Int),r1)) (
 a0c (h0b n r width) fun r2 =>
 a0c (b0o n a0b (r2.2,((0:Int),((List.map (fun y3=>(((UInt8.toNat y3):Nat):Int)) r2.1),((((List.length (List.map (fun y4=>(((UInt8.toNat y4):Nat):Int)) r2.1)):Nat):Int),((0:Int),())))))) fun r5 =>
 f0v (fun y6 =>
 some (y6.2.1,y6.1)) (fun z7 =>
 some z7) r5)):=by kernel_rfl
theorem f0c (n f:Nat) (r:(List UInt8×Bool)) (n_:Int) (s19:(List Int)) (s20:Int) (s21:Int):b0o n (f+1) (r,n_,s19,s20,s21,()) =
 tif ((decide (s21<s20))) (
 a0c (at? s19 s21) fun r0 =>
 b0o n f (r,((orI .u64 (shlI .u64 n_ (8:Int)) (IntKind.wrap .u64 r0)),(s19,(s20,((IntKind.wrap .i64 (s21+1)),())))))) (
 some (.inl (r,(n_,())))):=by kernel_rfl
theorem u0r (n:Nat) (n_:Int) (low:Int) (high:Int):e0b (n+1) n_ low high =
 tif ((decide (low≤n_))) (
 some (decide (n_≤high))) (
 some false):=by kernel_rfl
theorem r0l (n:Nat) (n_:Int) (low:Int) (high:Int):f0j (n+1) n_ low high =
 tif ((decide (low≤n_))) (
 some (decide (n_≤high))) (
 some false):=by kernel_rfl
theorem y0c (n:Nat) (c:b0a):g0c (n+1) c =
 a0c (g0d n c.1 (16:Int)) fun r0 =>
 a0c (g0d n c.2.2.1.1 (4:Int)) fun r1 =>
 a0c (g0d n c.2.2.1.2.1 (4:Int)) fun r2 =>
 a0c (g0d n c.2.2.1.2.2 (4:Int)) fun r3 =>
 some (IntKind.wrap .i64 ((IntKind.wrap .i64 ((IntKind.wrap .i64 ((IntKind.wrap .i64 ((1:Int)+r0))+r1))+r2))+r3)):=by kernel_rfl
theorem l0i (n:Nat) (x:Int) (y:Int):k0t (n+1) x y =
 a0c (i0p n x y) fun r0 =>
 some r0:=by kernel_rfl
theorem r0g (n:Nat) (g:a0n) (l:(List (Int×List UInt8))):k0p (n+1) g l =
 a0c (e0t n a0b (g,(l,((((List.length l):Nat):Int),(0,()))))) fun r0 =>
 f0v (fun y1 =>
 a0c (g0p n y1.1.1) fun r2 =>
 some (r2.1,(r2.2,y1.1.2))) (fun z3 =>
 some z3) r0:=by kernel_rfl
theorem i0i (n f:Nat) (g:a0n) (s8:(List (Int×List UInt8))) (s9:Int) (s10:Int):e0t n (f+1) (g,s8,s9,s10,()) =
 tif ((decide (s10<s9))) (
 a0c (at? s8 s10) fun r0 =>
 a0c (i0r n g.1 r0.1 r0.2) fun r1 =>
 tif ((!(decide (r1.1=0)))) (
 some (.inr (r1.1,(r1.2,g.2)))) (
 e0t n f ((r1.2,g.2),(s8,(s9,((IntKind.wrap .i64 (s10+1)),())))))) (
 some (.inl (g,()))):=by kernel_rfl
theorem o0d (n:Nat) (w:(List Int)) (s:List UInt8):l0j (n+1) w s =
 tif ((decide ((((List.length w)+(List.length (List.map (fun y1=>(((UInt8.toNat y1):Nat):Int)) s)))*1)≤140737488355328))) (
 some (w++(List.map (fun y0=>(((UInt8.toNat y0):Nat):Int)) s))) (
 none):=by kernel_rfl
theorem m0m (n:Nat) (w:(List Int)) (width:Int) (n_:Int):d0a (n+1) w width n_ =
 tif ((decide (width<1))) (
 some w) (
 tif ((decide ((8:Int)<width))) (
 some w) (
 a0c (c0z n a0b (w,(n_,((IntKind.wrap .i64 ((8:Int)*(IntKind.wrap .i64 (width-1)))),())))) fun r0 =>
 f0v (fun y1 =>
 some y1.1) (fun z2 =>
 some z2) r0)):=by kernel_rfl
theorem f0b (n f:Nat) (w:(List Int)) (n_:Int) (up:Int):c0z n (f+1) (w,n_,up,()) =
 tif ((decide ((0:Int)≤up))) (
 tif ((decide (up<0))) (
 none) (
 tif ((decide ((((List.length w)+1)*1)≤140737488355328))) (
 c0z n f ((w++((IntKind.wrap .u8 (shrI .u64 n_ up))::[])),(n_,((IntKind.wrap .i64 (up-8)),())))) (
 none))) (
 some (.inl (w,()))):=by kernel_rfl
theorem a1y (n:Nat) (s:List UInt8):r0r (n+1) s =
 a0c (strings_Repeat n ((0:UInt8)::[]) (IntKind.wrap .i64 ((512:Int)-(((List.length s):Nat):Int)))) fun r0 =>
 tif ((decide (((List.length s)+(List.length r0))≤9223372036854775807))) (
 some (s++r0)) (
 none):=by kernel_rfl
theorem i0s (n:Nat) (w:(List Int)):h0a (n+1) w =
 some ((List.map (fun y0=>(UInt8.ofNat (Int.toNat y0))) w),w):=by kernel_rfl
theorem y0d (n:Nat) (n_:Int) (by_:Int):g0d (n+1) n_ by_ =
 tif ((decide (by_=0))) (
 none) (
 some (IntKind.wrap .i64 (Int.tdiv (IntKind.wrap .i64 ((IntKind.wrap .i64 (n_+by_))-1)) by_))):=by kernel_rfl
theorem l0n (n:Nat) (s:(List (Int×List UInt8))) (f_:(((Int×List UInt8)×Unit)→Option Bool)):i0e (n+1) s f_ =
 a0c (c0t n a0b (s,(f_,((((List.length s):Nat):Int),(0,()))))) fun r0 =>
 f0v (fun y1 =>
 some ((-1):Int)) (fun z2 =>
 some z2) r0:=by kernel_rfl
theorem e0p (n f:Nat) (s:(List (Int×List UInt8))) (f_:(((Int×List UInt8)×Unit)→Option Bool)) (s7:Int) (s8:Int):c0t n (f+1) (s,f_,s7,s8,()) =
 tif ((decide (s8<s7))) (
 a0c (at? s s8) fun r0 =>
 a0c (f_ (r0,())) fun r1 =>
 tif (r1) (
 some (.inr s8)) (
 c0t n f (s,(f_,(s7,((IntKind.wrap .i64 (s8+1)),())))))) (
 some (.inl ())):=by kernel_rfl
theorem o0k (n:Nat) (s:(List (Int×List UInt8))):l0s (n+1) s =
 tif ((decide ((List.length s)=0))) (
 both (
 some []) (
 tif ((decide (((0+(List.length s))*24)≤140737488355328))) (
 some ([]++s)) (
 none))) (
 tif ((decide (((0+(List.length s))*24)≤140737488355328))) (
 some ([]++s)) (
 none)):=by kernel_rfl
theorem r0j (n:Nat) (d:a0f) (i:Int):k0x (n+1) d i =
 tif ((decide ((0:Int)≤i))) (
 some ((decide (i<(((List.length d.1):Nat):Int))),d)) (
 some (false,d)):=by kernel_rfl
theorem n0n (n:Nat) (r:(List UInt8×Bool)):c0j (n+1) r =
 some ([],true):=by kernel_rfl
theorem o0x (n:Nat) (x:Int) (y:Int):i0p (n+1) x y =
 some ((IntKind.wrap .u64 ((IntKind.wrap .u64 ((IntKind.wrap .u64 ((shrI .u64 x (32:Int))*(shrI .u64 y (32:Int))))+(shrI .u64 (IntKind.wrap .u64 ((IntKind.wrap .u64 ((shrI .u64 x (32:Int))*(andI .u64 y (4294967295:Int))))+(shrI .u64 (IntKind.wrap .u64 ((andI .u64 x (4294967295:Int))*(andI .u64 y (4294967295:Int)))) (32:Int)))) (32:Int))))+(shrI .u64 (IntKind.wrap .u64 ((andI .u64 (IntKind.wrap .u64 ((IntKind.wrap .u64 ((shrI .u64 x (32:Int))*(andI .u64 y (4294967295:Int))))+(shrI .u64 (IntKind.wrap .u64 ((andI .u64 x (4294967295:Int))*(andI .u64 y (4294967295:Int)))) (32:Int)))) (4294967295:Int))+(IntKind.wrap .u64 ((andI .u64 x (4294967295:Int))*(shrI .u64 y (32:Int)))))) (32:Int)))),(IntKind.wrap .u64 (x*y))):=by kernel_rfl
theorem p0f (n:Nat) (d:a0f) (i:Int) (s:List UInt8):i0r (n+1) d i s =
 a0c (k0x n d i) fun r0 =>
 tif ((!r0.1)) (
 some (1,r0.2)) (
 tif ((!(decide ((((List.length s):Nat):Int)=512)))) (
 some (1,r0.2)) (
 a0c (g0n n r0.2) fun r1 =>
 tif ((decide (r1.1=0))) (
 tif ((decide ((((List.length r1.2.2.1)+1)*24)≤140737488355328))) (
 some (r1.1,(r1.2.1,((r1.2.2.1++((i,s)::[])),r1.2.2.2)))) (
 none)) (
 some r1))):=by kernel_rfl
theorem q0h (n:Nat) (d:a0f):g0p (n+1) d =
 a0c (g0n n d) fun r0 =>
 tif ((decide (r0.1=0))) (
 a0c (g0o n r0.2 (fun y1=>g0z n y1.1)) fun r2 =>
 some (r0.1,r2.2)) (
 some r0):=by kernel_rfl
theorem q0e (n:Nat) (d:a0f):g0n (n+1) d =
 tif (d.2.2.2) (
 some (14,d)) (
 tif ((decide (d.2.2.1=1))) (
 some (14,(d.1,(d.2.1,(0,true))))) (
 tif ((decide ((1:Int)<d.2.2.1))) (
 some (0,(d.1,(d.2.1,((IntKind.wrap .i64 (d.2.2.1-1)),d.2.2.2))))) (
 some (0,d)))):=by kernel_rfl
theorem o0c (n:Nat) (p0:Int):g0z (n+1) p0 =
 some true:=by kernel_rfl
theorem q0i (n:Nat) (x0:List (List UInt8)×(List (Int×List UInt8)×(Int×Bool))) (x1:Int):d0e (n+1) x0 x1=r0a x0 x1:=by
    have h:d0e (n+1) x0 x1=Option.bind (r0a x0 x1) (fun z=>some z):=by kernel_rfl
    rw[h];cases r0a x0 x1<;>rfl
theorem k0m (n:Nat) (x0:List UInt8) (x1:Int):c0e (n+1) x0 x1=b1v x0 x1:=by
    have h:c0e (n+1) x0 x1=Option.bind (b1v x0 x1) (fun z=>some z):=by kernel_rfl
    rw[h];cases b1v x0 x1<;>rfl
theorem g0s (n:Nat) (x0:List UInt8) (x1:List UInt8):b0g (n+1) x0 x1=d0z x0 x1:=by
    have h:b0g (n+1) x0 x1=Option.bind (d0z x0 x1) (fun z=>some z):=by kernel_rfl
    rw[h];cases d0z x0 x1<;>rfl
theorem c0r (n:Nat) (x0:List UInt8):d0n (n+1) x0=some ((x0.length:Int),x0):=by kernel_rfl
theorem e0n (n:Nat) (x0:List UInt8):c0q (n+1) x0=some (x0,x0):=by kernel_rfl
theorem o0l (n:Nat) (x0:List ((Int×List UInt8))) (x1:Int):i0f (n+1) x0 x1=q0x x0 x1:=by
    have h:i0f (n+1) x0 x1=Option.bind (q0x x0 x1) (fun z=>some z):=by kernel_rfl
    rw[h];cases q0x x0 x1<;>rfl
end Go.Proofs.Ytmcgmijdnfcfgaa
