/- Trees, printed by program. -/
import Derived.Test.YtmcgmijdnfcfgaaGreatTr0
import Derived.KernelRfl
set_option linter.unusedVariables false
namespace Go.Proofs.YtmcgmijdnfcfgaaGreat
open Go.Flat
theorem g1r (n:Nat) (n_:Int):r0t (n+1) n_ =
 tif ((decide (n_<1))) (
 some (none,1)) (
 tif ((decide ((16777216:Int)<n_))) (
 some (none,1)) (
 a0d (strings_Repeat n ((0:UInt8)::[]) (512:Int)) fun r0 =>
 a0d (h0x n (r0::[]) n_) fun r1 =>
 some ((some (r1,([],(0,false)))),0))):=by kernel_rfl
theorem d1l (n:Nat) (c:a0p):d1m (n+1) c =
 a0d (c0j n c) fun r0 =>
 tif ((!(decide (r0.2=0)))) (
 some true) (
 some (decide (r0.1≤120))):=by kernel_rfl
theorem k1a (n:Nat) (n_:Int):a1j (n+1) n_ =
 tif ((decide (n_<1))) (
 some (([],([],((0:Int),false))),false)) (
 tif ((decide ((16777216:Int)<n_))) (
 some (([],([],((0:Int),false))),false)) (
 tif (((decide ((0:Int)≤n_))&&((decide (n_≤n_))&&(decide ((n_*16)≤140737488355328))))) (
 a0d (l0l n a0c (([],([],((0:Int),false))),((List.map (fun y0=>(UInt8.ofNat (Int.toNat y0))) (List.replicate 512 (0:Int))),(((List.replicate (Int.toNat n_) ([]:List UInt8)),([],((0:Int),false))),((((List.length (List.replicate (Int.toNat n_) ([]:List UInt8))):Nat):Int),((0:Int),())))))) fun r1 =>
 d0b (fun y2 =>
 some (y2.2.1,true)) (fun z3 =>
 some z3) r1) (
 none))):=by kernel_rfl
theorem r0c (n f:Nat) (s2:a0a) (none_:List UInt8) (d:a0a) (s21:Int) (s22:Int):l0l n (f+1) (s2,none_,d,s21,s22,()) =
 tif ((decide (s22<s21))) (
 a0d (at? d.1 s22) fun r0 =>
 a0d ((d.1)[(Int.toNat s22)]?) fun r1 =>
 l0l n f (s2,(none_,(((List.set d.1 (Int.toNat s22) none_),d.2),(s21,((IntKind.wrap .i64 (s22+1)),())))))) (
 some (.inl (s2,(d,())))):=by kernel_rfl
theorem a1i (n:Nat) (d:a0a) (c:a0p) (l:(List (Int×List UInt8))):s0k (n+1) d c l =
 a0d (m0i n d c) fun r0 =>
 tif ((!r0)) (
 some (d,2)) (
 tif ((decide (c.2.2.2.2<(((List.length l):Nat):Int)))) (
 some (d,1)) (
 a0d (i0s n a0c (l,(d,(c,(([],([],(0,false))),(l,((((List.length l):Nat):Int),(0,())))))))) fun r1 =>
 d0b (fun y2 =>
 a0d (c0n n y2.2.1) fun r3 =>
 tif ((!(decide (r3.2.2=0)))) (
 some (y2.2.1,r3.2.2)) (
 tif ((decide ((0:Int)<r3.2.1))) (
 some (y2.2.1,7)) (
 tif ((decide ((((List.length y2.1):Nat):Int)=0))) (
 some (y2.2.1,0)) (
 a0d (o0f n y2.2.2.1) fun r4 =>
 a0d (e0d n a0c (y2.1,(y2.2.1,(y2.2.2.2.1,(r3.1,((IntKind.wrap .i64 ((1:Int)+r4)),([],([],([],(y2.1,((((List.length y2.1):Nat):Int),(0,())))))))))))) fun r5 =>
 d0b (fun y6 =>
 tif ((decide ((((List.length y6.2.2.2.2.1)+(List.length y6.2.2.2.2.2.1))*24)≤140737488355328))) (
 a0d (f0m n (IntKind.wrap .u64 (y6.2.2.2.1+1)) (((List.length y6.1):Nat):Int)) fun r7 =>
 a0d (f0m n (IntKind.wrap .u64 (y6.2.2.2.1+1)) (0:Int)) fun r8 =>
 a0d (h0a n a0c (y6.2.1,(y6.2.2.1,(((y6.2.2.2.2.1++y6.2.2.2.2.2.1)::((r7::[])::(y6.1::((r8::[])::[])))),(4,(0,())))))) fun r9 =>
 d0b (fun y10 =>
 some (y10.1,0)) (fun z11 =>
 some z11) r9) (
 none)) (fun z12 =>
 some z12) r5)))) (fun z13 =>
 some z13) r1)):=by kernel_rfl
theorem n0i (n f:Nat) (l:(List (Int×List UInt8))) (d_:a0a) (c_:a0p) (s6:a0a) (s32:(List (Int×List UInt8))) (s33:Int) (s34:Int):i0s n (f+1) (l,d_,c_,s6,s32,s33,s34,()) =
 tif ((decide (s34<s33))) (
 a0d (at? s32 s34) fun r0 =>
 a0d (m0m n c_) fun r1 =>
 tif ((decide (r0.1<r1))) (
 some (.inr (d_,1))) (
 tif ((decide ((((List.length d_.1):Nat):Int)≤r0.1))) (
 some (.inr (d_,1))) (
 tif ((!(decide ((((List.length r0.2):Nat):Int)=512)))) (
 some (.inr (d_,1))) (
 i0s n f (l,(d_,(c_,(s6,(s32,(s33,((IntKind.wrap .i64 (s34+1)),()))))))))))) (
 some (.inl (l,(d_,(c_,(s6,())))))):=by kernel_rfl
theorem l0k (n f:Nat) (l:(List (Int×List UInt8))) (d_:a0a) (s6:a0a) (number:Int) (at_:Int) (log:(List (Int×List UInt8))) (index:(List (Int×List UInt8))) (text:List UInt8) (s79:(List (Int×List UInt8))) (s80:Int) (s81:Int):e0d n (f+1) (l,d_,s6,number,at_,log,index,text,s79,s80,s81,()) =
 tif ((decide (s81<s80))) (
 a0d (at? s79 s81) fun r0 =>
 tif ((decide ((((List.length log)+1)*24)≤140737488355328))) (
 a0d (o0h n (4:Int) (IntKind.wrap .u64 r0.1)) fun r1 =>
 tif ((decide (((List.length text)+(List.length r1))≤9223372036854775807))) (
 tif ((decide ((Int.tmod s81 (120:Int))=119))) (
 a0d (v0r n (text++r1)) fun r2 =>
 tif ((decide ((((List.length index)+1)*24)≤140737488355328))) (
 e0d n f (l,(d_,(s6,(number,(at_,((log++(((IntKind.wrap .i64 (at_+s81)),r0.2)::[])),((index++(((IntKind.wrap .i64 ((1:Int)+(IntKind.wrap .i64 (Int.tdiv s81 (120:Int))))),r2)::[])),([],(s79,(s80,((IntKind.wrap .i64 (s81+1)),())))))))))))) (
 none)) (
 tif ((decide (s81=(IntKind.wrap .i64 ((((List.length l):Nat):Int)-1))))) (
 a0d (v0r n (text++r1)) fun r3 =>
 tif ((decide ((((List.length index)+1)*24)≤140737488355328))) (
 e0d n f (l,(d_,(s6,(number,(at_,((log++(((IntKind.wrap .i64 (at_+s81)),r0.2)::[])),((index++(((IntKind.wrap .i64 ((1:Int)+(IntKind.wrap .i64 (Int.tdiv s81 (120:Int))))),r3)::[])),([],(s79,(s80,((IntKind.wrap .i64 (s81+1)),())))))))))))) (
 none)) (
 e0d n f (l,(d_,(s6,(number,(at_,((log++(((IntKind.wrap .i64 (at_+s81)),r0.2)::[])),(index,((text++r1),(s79,(s80,((IntKind.wrap .i64 (s81+1)),())))))))))))))) (
 none)) (
 none)) (
 some (.inl (l,(d_,(s6,(number,(log,(index,())))))))):=by kernel_rfl
theorem l0j (n f:Nat) (d_:a0a) (s6:a0a) (s135:(List (List (Int×List UInt8)))) (s136:Int) (s137:Int):h0a n (f+1) (d_,s6,s135,s136,s137,()) =
 tif ((decide (s137<s136))) (
 a0d (at? s135 s137) fun r0 =>
 a0d (j0n n d_ r0) fun r1 =>
 tif ((!(decide (r1.2=0)))) (
 some (.inr r1)) (
 h0a n f (r1.1,(s6,(s135,(s136,((IntKind.wrap .i64 (s137+1)),()))))))) (
 some (.inl (d_,(s6,())))):=by kernel_rfl
theorem x0r (n:Nat) (l:(List (Int×Int))):m0r (n+1) l =
 a0d (h0d n a0c ([],(l,((((List.length l):Nat):Int),(0,()))))) fun r0 =>
 d0b (fun y1 =>
 some y1.1) (fun z2 =>
 some z2) r0:=by kernel_rfl
theorem l0r (n f:Nat) (out:(List (Int×List UInt8))) (s6:(List (Int×Int))) (s7:Int) (s8:Int):h0d n (f+1) (out,s6,s7,s8,()) =
 tif ((decide (s8<s7))) (
 a0d (at? s6 s8) fun r0 =>
 a0d (f0z n r0.2) fun r1 =>
 tif ((decide ((((List.length out)+1)*24)≤140737488355328))) (
 h0d n f ((out++((r0.1,r1)::[])),(s6,(s7,((IntKind.wrap .i64 (s8+1)),()))))) (
 none)) (
 some (.inl (out,()))):=by kernel_rfl
theorem x0i (n:Nat) (d:a0a) (c:a0p) (l:(List (Int×List UInt8))):f0l (n+2) d c l =
 a0d (c0j n c) fun r0 =>
 tif ((!(decide (r0.2=0)))) (
 some (2,d)) (
 a0d (d0f n d) fun r1 =>
 tif ((!(decide (r0.1=r1)))) (
 some (2,d)) (
 a0d (g0d n c) fun r2 =>
 a0d (f0q n c) fun r3 =>
 tif ((decide (c.2.2.2.2<(((List.length l):Nat):Int)))) (
 some (1,d)) (
 a0d (e0g (n+1) l (fun y4=>q0y (n+1) y4.1 (d,(c,(r2,(IntKind.wrap .i64 ((1:Int)+r3))))))) fun r5 =>
 tif (r5) (
 some (1,d)) (
 a0d (b0r (n+1) d) fun r6 =>
 tif ((!(decide (r6.2.2.1=0)))) (
 some r6.2.2) (
 tif ((decide ((0:Int)<r6.2.1))) (
 some (7,r6.2.2.2)) (
 tif ((decide ((((List.length l):Nat):Int)=0))) (
 some (0,r6.2.2.2)) (
 a0d (k0z (n+1) (r6.2.2.2,(c,(r2,(IntKind.wrap .i64 ((1:Int)+r3))))) l) fun r7 =>
 a0d (l0a (n+1) r7.2 l) fun r8 =>
 tif ((decide ((((List.length r7.1)+(List.length r8.1))*24)≤140737488355328))) (
 a0d (e0k (n+1) (IntKind.wrap .u64 (r6.1+1)) (((List.length l):Nat):Int)) fun r9 =>
 a0d (e0k (n+1) (IntKind.wrap .u64 (r6.1+1)) (0:Int)) fun r10 =>
 a0d (e0c (n+1) r8.2 ((r7.1++r8.1)::((r9::[])::(l::((r10::[])::[]))))) fun r11 =>
 some (r11.1,r11.2.1)) (
 none)))))))):=by kernel_rfl
theorem x0l (n:Nat) (d:a0a) (c:a0p):q0c (n+1) d c =
 a0d (m0i n d c) fun r0 =>
 tif ((!r0)) (
 some (d,(0,2))) (
 a0d (c0n n d) fun r1 =>
 tif ((!(decide (r1.2.2=0)))) (
 some (d,(0,r1.2.2))) (
 tif ((decide (r1.2.1=0))) (
 some (d,(0,0))) (
 tif ((decide (c.2.2.2.2<r1.2.1))) (
 some (d,(0,4))) (
 a0d (f0v n a0c (d,(c,(([],([],(0,false))),(r1.1,(r1.2.1,([],(0,())))))))) fun r2 =>
 d0b (fun y3 =>
 a0d (j0n n y3.1 y3.2.2.2.2.1) fun r4 =>
 tif ((!(decide (r4.2=0)))) (
 some (r4.1,(0,r4.2))) (
 a0d (f0m n y3.2.2.1 (0:Int)) fun r5 =>
 a0d (j0n n r4.1 (r5::[])) fun r6 =>
 tif ((!(decide (r6.2=0)))) (
 some (r6.1,(0,r6.2))) (
 some (r6.1,(y3.2.2.2.1,0))))) (fun z7 =>
 some z7) r2)))):=by kernel_rfl
theorem k0k (n f:Nat) (d_:a0a) (c_:a0p) (s4:a0a) (number:Int) (many:Int) (l:(List (Int×List UInt8))) (i:Int):f0v n (f+1) (d_,c_,s4,number,many,l,i,()) =
 tif ((decide (i<many))) (
 a0d (e0w n d_ (IntKind.wrap .i64 ((1:Int)+(IntKind.wrap .i64 (Int.tdiv i (120:Int)))))) fun r0 =>
 a0d (o0f n c_) fun r1 =>
 a0d (e0w n d_ (IntKind.wrap .i64 ((IntKind.wrap .i64 ((1:Int)+r1))+i))) fun r2 =>
 tif ((decide ((0:Int)≤(IntKind.wrap .i64 ((4:Int)*(Int.tmod i (120:Int))))))) (
 tif ((decide ((Int.toNat (IntKind.wrap .i64 ((4:Int)*(Int.tmod i (120:Int)))))≤(List.length r0.1)))) (
 a0d (e0a n ((List.drop (Int.toNat (IntKind.wrap .i64 ((4:Int)*(Int.tmod i (120:Int))))) (List.take (List.length r0.1) r0.1)),false) (4:Int)) fun r3 =>
 a0d (m0m n c_) fun r4 =>
 tif ((decide ((IntKind.wrap .i64 r3.2)<r4))) (
 some (.inr (d_,(0,4)))) (
 tif ((decide ((((List.length d_.1):Nat):Int)≤(IntKind.wrap .i64 r3.2)))) (
 some (.inr (d_,(0,4)))) (
 tif ((decide ((((List.length l)+1)*24)≤140737488355328))) (
 f0v n f (d_,(c_,(s4,(number,(many,((l++(((IntKind.wrap .i64 r3.2),r2.1)::[])),((IntKind.wrap .i64 (i+1)),())))))))) (
 none)))) (
 none)) (
 none)) (
 some (.inl (d_,(s4,(number,(many,(l,()))))))):=by kernel_rfl
theorem v0o (n:Nat) (d:a0a) (c:a0p):k0h (n+2) d c =
 a0d (c0j n c) fun r0 =>
 tif ((!(decide (r0.2=0)))) (
 some (0,(2,d))) (
 a0d (d0f n d) fun r1 =>
 tif ((!(decide (r0.1=r1)))) (
 some (0,(2,d))) (
 a0d (g0d n c) fun r2 =>
 a0d (f0q n c) fun r3 =>
 a0d (b0r (n+1) d) fun r4 =>
 tif ((!(decide (r4.2.2.1=0)))) (
 some (0,r4.2.2)) (
 tif ((decide (r4.2.1=0))) (
 some (0,(0,r4.2.2.2))) (
 tif ((decide (c.2.2.2.2<r4.2.1))) (
 some (0,(4,r4.2.2.2))) (
 a0d (f0i (n+1) a0c (r4.2.2.2,(((),(c,(r2,(IntKind.wrap .i64 ((1:Int)+r3))))),(r4.1,(r4.2.1,([],(r4.2.1,(0,())))))))) fun r5 =>
 d0b (fun y6 =>
 a0d (e0k (n+1) y6.2.2.1 (0:Int)) fun r7 =>
 a0d (e0c (n+1) (y6.1,y6.2.1.2) (y6.2.2.2.2.1::((r7::[])::[]))) fun r8 =>
 tif ((!(decide (r8.1=0)))) (
 some (0,(r8.1,r8.2.1))) (
 some (y6.2.2.2.1,(0,r8.2.1)))) (fun z9 =>
 some z9) r5))))):=by kernel_rfl
theorem j0k (n f:Nat) (d:a0a) (g:(Unit×(a0p×(Int×Int)))) (number:Int) (many:Int) (l:(List (Int×List UInt8))) (s42:Int) (s43:Int):f0i n (f+1) (d,g,number,many,l,s42,s43,()) =
 tif ((decide (s43<s42))) (
 a0d (n0y n (d,g.2) s43) fun r0 =>
 tif ((!(decide (r0.2.1=0)))) (
 some (.inr (0,(r0.2.1,r0.2.2.1)))) (
 tif ((decide ((((List.length l)+1)*24)≤140737488355328))) (
 f0i n f (r0.2.2.1,(((),r0.2.2.2),(number,(many,((l++(r0.1::[])),(s42,((IntKind.wrap .i64 (s43+1)),())))))))) (
 none))) (
 some (.inl (d,(((),g.2),(number,(many,(l,()))))))):=by kernel_rfl
theorem v0t (n:Nat) (d:a0a) (n_:Int):t0p (n+1) d n_ =
 some (d.1,(d.2.1,((if n_<0 then (0:Int) else n_),d.2.2.2))):=by kernel_rfl
theorem u0m (n:Nat) (d:a0a) (n_:Int):r0v (n+1) d n_ =
 some (d.1,(d.2.1,((if n_<0 then (0:Int) else n_),d.2.2.2))):=by kernel_rfl
theorem x0n (n:Nat) (d:a0a) (keep:(List Bool)):q0d (n+1) d keep =
 a0d (e0e n a0c (keep,(d,(([],([],(0,false))),([],(d.2.1,((((List.length d.2.1):Nat):Int),(0,())))))))) fun r0 =>
 d0b (fun y1 =>
 a0d (f0x n y1.1 y1.2.2.1) fun r2 =>
 some ((r2.1,(r2.2.1,(0,false))),(((List.length y1.2.2.1):Nat):Int))) (fun z3 =>
 some z3) r0:=by kernel_rfl
theorem l0m (n f:Nat) (keep:(List Bool)) (d_:a0a) (s4:a0a) (l:(List (Int×List UInt8))) (s10:(List (Int×List UInt8))) (s11:Int) (s12:Int):e0e n (f+1) (keep,d_,s4,l,s10,s11,s12,()) =
 tif ((decide (s12<s11))) (
 a0d (at? s10 s12) fun r0 =>
 tif ((decide (s12<(((List.length keep):Nat):Int)))) (
 a0d (at? keep s12) fun r1 =>
 tif (r1) (
 tif ((decide ((((List.length l)+1)*24)≤140737488355328))) (
 e0e n f (keep,(d_,(s4,((l++(r0::[])),(s10,(s11,((IntKind.wrap .i64 (s12+1)),())))))))) (
 none)) (
 e0e n f (keep,(d_,(s4,(l,(s10,(s11,((IntKind.wrap .i64 (s12+1)),()))))))))) (
 e0e n f (keep,(d_,(s4,(l,(s10,(s11,((IntKind.wrap .i64 (s12+1)),()))))))))) (
 some (.inl (d_,(s4,(l,()))))):=by kernel_rfl
theorem w0p (n:Nat) (d:a0a) (keep:(List Bool)):o0u (n+1) d keep =
 a0d (h0f n (d.1,(d.2.1,(0,false))) (fun y0=>l0f n y0.1 keep)) fun r1 =>
 some r1:=by kernel_rfl
theorem s0l (n:Nat) (d:a0a) (i:Int) (s:List UInt8):h0b (n+1) d i s =
 tif ((decide (i<0))) (
 some (d,1)) (
 tif ((decide ((((List.length d.1):Nat):Int)≤i))) (
 some (d,1)) (
 tif ((!(decide ((((List.length s):Nat):Int)=512)))) (
 some (d,1)) (
 a0d (i0t n d) fun r0 =>
 tif ((!r0.2)) (
 some (r0.1,14)) (
 tif ((decide (((0+(List.length r0.1.2.1))*24)≤140737488355328))) (
 tif ((decide ((((List.length ([]++r0.1.2.1))+1)*24)≤140737488355328))) (
 some ((r0.1.1,((([]++r0.1.2.1)++((i,s)::[])),r0.1.2.2)),0)) (
 none)) (
 none))))):=by kernel_rfl
theorem r0u (n:Nat) (d:a0a) (i:Int) (s:List UInt8):g0b (n+1) d i s =
 a0d (m0v n d i) fun r0 =>
 tif ((!r0.1)) (
 some (1,r0.2)) (
 tif ((!(decide ((((List.length s):Nat):Int)=512)))) (
 some (1,r0.2)) (
 a0d (h0e n r0.2) fun r1 =>
 tif ((decide (r1.1=0))) (
 tif ((decide ((((List.length r1.2.2.1)+1)*24)≤140737488355328))) (
 some (r1.1,(r1.2.1,((r1.2.2.1++((i,s)::[])),r1.2.2.2)))) (
 none)) (
 some r1))):=by kernel_rfl
theorem a1h (n:Nat) (d:a0a) (c:a0p) (home:(List (List UInt8))):s0j (n+1) d c home =
 a0d (m0i n d c) fun r0 =>
 tif ((!r0)) (
 some (d,2)) (
 a0d (m0m n c) fun r1 =>
 tif ((!(decide ((((List.length home):Nat):Int)=(IntKind.wrap .i64 ((((List.length d.1):Nat):Int)-r1)))))) (
 some (d,1)) (
 a0d (f0w n a0c (home,(d,(([],([],(0,false))),(r1,([],(home,((((List.length home):Nat):Int),(0,()))))))))) fun r2 =>
 d0b (fun y3 =>
 a0d (j0n n y3.2.1 y3.2.2.2.2.1) fun r4 =>
 tif ((!(decide (r4.2=0)))) (
 some r4) (
 a0d (f0m n (1:Int) (0:Int)) fun r5 =>
 a0d (at? y3.1 (0:Int)) fun r6 =>
 a0d (j0n n r4.1 (r5::((y3.2.2.2.1,r6)::[]))) fun r7 =>
 some r7)) (fun z8 =>
 some z8) r2)):=by kernel_rfl
theorem n0h (n f:Nat) (home:(List (List UInt8))) (d_:a0a) (s6:a0a) (at_:Int) (l:(List (Int×List UInt8))) (s29:(List (List UInt8))) (s30:Int) (s31:Int):f0w n (f+1) (home,d_,s6,at_,l,s29,s30,s31,()) =
 tif ((decide (s31<s30))) (
 a0d (at? s29 s31) fun r0 =>
 tif ((!(decide ((((List.length r0):Nat):Int)=512)))) (
 some (.inr (d_,1))) (
 tif ((decide ((0:Int)<s31))) (
 tif ((decide ((((List.length l)+1)*24)≤140737488355328))) (
 f0w n f (home,(d_,(s6,(at_,((l++(((IntKind.wrap .i64 (at_+s31)),r0)::[])),(s29,(s30,((IntKind.wrap .i64 (s31+1)),()))))))))) (
 none)) (
 f0w n f (home,(d_,(s6,(at_,(l,(s29,(s30,((IntKind.wrap .i64 (s31+1)),()))))))))))) (
 some (.inl (home,(d_,(s6,(at_,(l,()))))))):=by kernel_rfl
theorem t0t (n:Nat) (c:a0p) (by_:Int):j0v (n+1) c by_ =
 a0d (c0j n c) fun r0 =>
 tif ((!(decide (r0.2=0)))) (
 some []) (
 a0d (g0d n c) fun r1 =>
 a0d (k0p n a0c (by_,([],((IntKind.wrap .i64 (r0.1-r1)),(0,()))))) fun r2 =>
 d0b (fun y3 =>
 some y3.1) (fun z4 =>
 some z4) r2):=by kernel_rfl
theorem o0o (n f:Nat) (by_:Int) (out:(List (List UInt8))) (s19:Int) (s20:Int):k0p n (f+1) (by_,out,s19,s20,()) =
 tif ((decide (s20<s19))) (
 a0d (f0z n (IntKind.wrap .u8 (by_+(IntKind.wrap .u8 s20)))) fun r0 =>
 tif ((decide ((((List.length out)+1)*16)≤140737488355328))) (
 k0p n f (by_,((out++(r0::[])),(s19,((IntKind.wrap .i64 (s20+1)),()))))) (
 none)) (
 some (.inl (out,()))):=by kernel_rfl
theorem x0h (n:Nat) (d:a0a) (c:a0p) (home:(List (List UInt8))):j0m (n+2) d c home =
 a0d (c0j n c) fun r0 =>
 tif ((!(decide (r0.2=0)))) (
 some (2,d)) (
 a0d (d0f n d) fun r1 =>
 tif ((!(decide (r0.1=r1)))) (
 some (2,d)) (
 a0d (g0d n c) fun r2 =>
 a0d (f0q n c) fun r3 =>
 a0d (d0f (n+1) d) fun r4 =>
 tif ((!(decide ((((List.length home):Nat):Int)=(IntKind.wrap .i64 (r4-r2)))))) (
 some (1,d)) (
 a0d (e0f (n+1) home (fun y5=>q0x (n+1) y5.1)) fun r6 =>
 tif (r6) (
 some (1,d)) (
 a0d (g0y (n+1) a0c (d,(((),(c,(r2,(IntKind.wrap .i64 ((1:Int)+r3))))),([],(home,((((List.length home):Nat):Int),(0,()))))))) fun r7 =>
 d0b (fun y8 =>
 tif ((decide (1≤(List.length y8.2.2.1)))) (
 a0d (e0k (n+1) (1:Int) (0:Int)) fun r9 =>
 a0d (at? y8.2.2.1 (0:Int)) fun r10 =>
 a0d ((y8.2.2.1)[0]?) fun r11 =>
 a0d (e0c (n+1) (y8.1,y8.2.1.2) ((List.take ((List.length y8.2.2.1)-1) (List.drop 1 y8.2.2.1))::((r9::(r11::[]))::[]))) fun r12 =>
 some (r12.1,r12.2.1)) (
 none)) (fun z13 =>
 some z13) r7)))):=by kernel_rfl
theorem l0i (n f:Nat) (d:a0a) (g:(Unit×(a0p×(Int×Int)))) (l:(List (Int×List UInt8))) (s38:(List (List UInt8))) (s39:Int) (s40:Int):g0y n (f+1) (d,g,l,s38,s39,s40,()) =
 tif ((decide (s40<s39))) (
 a0d (at? s38 s40) fun r0 =>
 tif ((decide ((((List.length l)+1)*24)≤140737488355328))) (
 g0y n f (d,(((),g.2),((l++(((IntKind.wrap .i64 (g.2.2.1+s40)),r0)::[])),(s38,(s39,((IntKind.wrap .i64 (s40+1)),()))))))) (
 none)) (
 some (.inl (d,(((),g.2),(l,()))))):=by kernel_rfl
theorem v0p (n:Nat) (d:a0a):b0r (n+1) d =
 a0d (d0l n d (0:Int)) fun r0 =>
 tif ((!(decide (r0.2.1=0)))) (
 some (0,(0,r0.2))) (
 a0d (t0e n r0.1) fun r1 =>
 a0d (i0e n r1 (4:Int)) fun r2 =>
 a0d (d0i n r2.2 (8:Int)) fun r3 =>
 a0d (d0i n r3.2 (4:Int)) fun r4 =>
 a0d (e0k n r3.1 (IntKind.wrap .i64 r4.1)) fun r5 =>
 tif ((!(r5.2==r0.1))) (
 some (0,(0,(4,r0.2.2)))) (
 some (r3.1,((IntKind.wrap .i64 r4.1),(0,r0.2.2))))):=by kernel_rfl
theorem x0m (n:Nat) (d:a0a):c0n (n+1) d =
 a0d (e0w n d (0:Int)) fun r0 =>
 tif ((!(decide (r0.2=0)))) (
 some (0,(0,r0.2))) (
 tif ((decide (4≤(List.length r0.1)))) (
 a0d (e0a n ((List.drop 4 (List.take (List.length r0.1) r0.1)),false) (8:Int)) fun r1 =>
 a0d (e0a n r1.1 (4:Int)) fun r2 =>
 a0d (f0m n r1.2 (IntKind.wrap .i64 r2.2)) fun r3 =>
 tif ((!(r3.2==r0.1))) (
 some (0,(0,4))) (
 some (r1.2,((IntKind.wrap .i64 r2.2),0)))) (
 none)):=by kernel_rfl
theorem c1d (n:Nat) (d:a0a) (c:a0p):d0y (n+2) d c =
 a0d (c0j n c) fun r0 =>
 tif ((!(decide (r0.2=0)))) (
 some ([],(2,d))) (
 a0d (d0f n d) fun r1 =>
 tif ((!(decide (r0.1=r1)))) (
 some ([],(2,d))) (
 a0d (g0d n c) fun r2 =>
 a0d (f0q n c) fun r3 =>
 a0d (k0i (n+1) a0c (d,(((),(c,(r2,(IntKind.wrap .i64 ((1:Int)+r3))))),([],(r2,()))))) fun r4 =>
 d0b (fun y5 =>
 some (y5.2.1,(0,y5.1))) (fun z6 =>
 some z6) r4)):=by kernel_rfl
theorem j0l (n f:Nat) (d:a0a) (g:(Unit×(a0p×(Int×Int)))) (out:(List (List UInt8))) (i:Int):k0i n (f+1) (d,g,out,i,()) =
 a0d (d0f n d) fun r0 =>
 tif ((decide (i<r0))) (
 a0d (d0l n d i) fun r1 =>
 tif ((!(decide (r1.2.1=0)))) (
 some (.inr ([],r1.2))) (
 tif ((decide ((((List.length out)+1)*16)≤140737488355328))) (
 k0i n f (r1.2.2,(((),g.2),((out++(r1.1::[])),((IntKind.wrap .i64 (i+1)),()))))) (
 none))) (
 some (.inl (d,(out,())))):=by kernel_rfl
theorem f1e (n:Nat) (d:a0a) (c:a0p):g0z (n+1) d c =
 a0d (m0i n d c) fun r0 =>
 tif ((!r0)) (
 some ([],2)) (
 a0d (m0m n c) fun r1 =>
 a0d (m0j n a0c (d,([],(r1,())))) fun r2 =>
 d0b (fun y3 =>
 some (y3.1,0)) (fun z4 =>
 some z4) r2):=by kernel_rfl
theorem l0b (n f:Nat) (d_:a0a) (out:(List (List UInt8))) (i:Int):m0j n (f+1) (d_,out,i,()) =
 tif ((decide (i<(((List.length d_.1):Nat):Int)))) (
 a0d (e0w n d_ i) fun r0 =>
 tif ((!(decide (r0.2=0)))) (
 some (.inr ([],r0.2))) (
 tif ((decide ((((List.length out)+1)*16)≤140737488355328))) (
 m0j n f (d_,((out++(r0.1::[])),((IntKind.wrap .i64 (i+1)),())))) (
 none))) (
 some (.inl (out,()))):=by kernel_rfl
theorem f1f (n:Nat) (a:(List (List UInt8))) (b:(List (List UInt8))):c0l (n+1) a b =
 tif ((!(decide ((((List.length a):Nat):Int)=(((List.length b):Nat):Int))))) (
 some false) (
 a0d (m0k n a0c (a,(b,((((List.length a):Nat):Int),(0,()))))) fun r0 =>
 d0b (fun y1 =>
 some true) (fun z2 =>
 some z2) r0):=by kernel_rfl
theorem p0t (n f:Nat) (a:(List (List UInt8))) (b:(List (List UInt8))) (s12:Int) (s13:Int):m0k n (f+1) (a,b,s12,s13,()) =
 tif ((decide (s13<s12))) (
 a0d (at? a s13) fun r0 =>
 a0d (at? b s13) fun r1 =>
 tif ((!(r0==r1))) (
 some (.inr false)) (
 m0k n f (a,(b,(s12,((IntKind.wrap .i64 (s13+1)),())))))) (
 some (.inl ())):=by kernel_rfl
theorem t0d (n:Nat) (d:a0a):c0d (n+1) d =
 some (d.2.2.2,d):=by kernel_rfl
theorem t0b (n:Nat) (d:a0a):b0s (n+1) d =
 a0d (n0u n d.1) fun r0 =>
 some (r0,d):=by kernel_rfl
theorem r0d (n:Nat) (a:(List (Int×List UInt8))) (b:(List (Int×List UInt8))):b0o (n+1) a b =
 tif ((!(decide ((((List.length a):Nat):Int)=(((List.length b):Nat):Int))))) (
 some false) (
 a0d (e0i n a0c (a,(b,((((List.length a):Nat):Int),(0,()))))) fun r0 =>
 d0b (fun y1 =>
 some true) (fun z2 =>
 some z2) r0):=by kernel_rfl
theorem h0s (n f:Nat) (a:(List (Int×List UInt8))) (b:(List (Int×List UInt8))) (s12:Int) (s13:Int):e0i n (f+1) (a,b,s12,s13,()) =
 tif ((decide (s13<s12))) (
 a0d (at? a s13) fun r0 =>
 a0d (at? b s13) fun r1 =>
 tif ((!((decide (r0.1=r1.1))&&(r0.2==r1.2)))) (
 some (.inr false)) (
 e0i n f (a,(b,(s12,((IntKind.wrap .i64 (s13+1)),())))))) (
 some (.inl ())):=by kernel_rfl
theorem p0p (n:Nat) (d:a0a):b0i (n+1) d =
 a0d (j0e n d.2.1) fun r0 =>
 some (r0,d):=by kernel_rfl
theorem k1t (n:Nat)  : f1w (n+1)  =
 some (20,((10,(20,60)),((4,(5,6)),(3,9)))):=by kernel_rfl
theorem q0a (n:Nat) (x:(List (List UInt8))) (count:Int):h0x (n+1) x count =
 tif ((decide (count<0))) (
 none) (
 a0d (m0q n (IntKind.wrap .u64 (((List.length x):Nat):Int)) (IntKind.wrap .u64 count)) fun r0 =>
 tif ((decide ((0:Int)<r0.1))) (
 none) (
 tif ((decide ((9223372036854775807:Int)<r0.2))) (
 none) (
 tif (((decide ((0:Int)≤(IntKind.wrap .i64 r0.2)))&&((decide ((IntKind.wrap .i64 r0.2)≤(IntKind.wrap .i64 r0.2)))&&(decide (((IntKind.wrap .i64 r0.2)*16)≤140737488355328))))) (
 a0d (d0v n a0c ((Go.Flat.putRow (List.replicate (Int.toNat (IntKind.wrap .i64 r0.2)) ([]:List UInt8)) 0 (List.take (List.length (List.replicate (Int.toNat (IntKind.wrap .i64 r0.2)) ([]:List UInt8))) x)),((((List.length (List.take (List.length (List.replicate (Int.toNat (IntKind.wrap .i64 r0.2)) ([]:List UInt8))) x)):Nat):Int),()))) fun r1 =>
 d0b (fun y2 =>
 some y2.1) (fun z3 =>
 some z3) r1) (
 none)))):=by kernel_rfl
theorem g0i (n f:Nat) (newslice:(List (List UInt8))) (n_:Int):d0v n (f+1) (newslice,n_,()) =
 tif ((decide (n_<(((List.length newslice):Nat):Int)))) (
 tif ((decide ((0:Int)≤n_))) (
 tif ((decide ((Int.toNat n_)≤(List.length newslice)))) (
 tif (((decide ((0:Int)≤n_))&&(decide (n_≤(((List.length newslice):Nat):Int))))) (
 tif ((decide (((Int.toNat n_)+((List.length newslice)-(Int.toNat n_)))≤(List.length newslice)))) (
 d0v n f ((Go.Flat.putRow newslice (Int.toNat n_) (List.take ((List.length newslice)-(Int.toNat n_)) (List.take ((Int.toNat n_)-0) (List.drop 0 newslice)))),((IntKind.wrap .i64 (n_+(((List.length (List.take ((List.length newslice)-(Int.toNat n_)) (List.take ((Int.toNat n_)-0) (List.drop 0 newslice)))):Nat):Int))),()))) (
 none)) (
 none)) (
 none)) (
 none)) (
 some (.inl (newslice,()))):=by kernel_rfl
theorem k0q (n:Nat) (c:a0p):c0j (n+1) c =
 a0d (g0u n c) fun r0 =>
 tif ((!(decide (r0=0)))) (
 some (0,r0)) (
 a0d (g0d n c) fun r1 =>
 a0d (p0l n c) fun r2 =>
 tif ((decide ((16777216:Int)<(IntKind.wrap .i64 ((IntKind.wrap .i64 (r1+1))+(IntKind.wrap .i64 (c.2.2.2.1*r2))))))) (
 some (0,1)) (
 some ((IntKind.wrap .i64 ((IntKind.wrap .i64 (r1+1))+(IntKind.wrap .i64 (c.2.2.2.1*r2)))),0))):=by kernel_rfl
theorem v0s (n:Nat) (d:a0a) (c:a0p):m0i (n+1) d c =
 a0d (u0s n c) fun r0 =>
 tif ((decide (r0.2=0))) (
 some (decide (r0.1=(((List.length d.1):Nat):Int)))) (
 some false):=by kernel_rfl
theorem c1l (n:Nat) (c:a0p):o0f (n+1) c =
 a0d (j0r n c) fun r0 =>
 tif ((!(decide (r0=0)))) (
 some (0:Int)) (
 a0d (j0q n c.2.2.2.2 (120:Int)) fun r1 =>
 some r1):=by kernel_rfl
theorem c1m (n:Nat) (width:Int) (n_:Int):o0h (n+1) width n_ =
 tif ((decide (width<1))) (
 some []) (
 tif ((decide ((8:Int)<width))) (
 some []) (
 tif (((decide ((0:Int)≤width))&&((decide (width≤width))&&(decide ((width*1)≤140737488355328))))) (
 a0d (k0n n a0c (width,(n_,((List.replicate (Int.toNat width) (0:Int)),((((List.length (List.replicate (Int.toNat width) (0:Int))):Nat):Int),((0:Int),())))))) fun r0 =>
 d0b (fun y1 =>
 some (List.map (fun y2=>(UInt8.ofNat (Int.toNat y2))) y1.1)) (fun z3 =>
 some z3) r0) (
 none))):=by kernel_rfl
theorem o0g (n f:Nat) (width:Int) (n_:Int) (b:(List Int)) (s16:Int) (s17:Int):k0n n (f+1) (width,n_,b,s16,s17,()) =
 tif ((decide (s17<s16))) (
 a0d (at? b (IntKind.wrap .i64 ((IntKind.wrap .i64 (width-1))-s17))) fun r0 =>
 a0d ((b)[(Int.toNat (IntKind.wrap .i64 ((IntKind.wrap .i64 (width-1))-s17)))]?) fun r1 =>
 k0n n f (width,((IntKind.wrap .u64 (Int.tdiv n_ (256:Int))),((List.set b (Int.toNat (IntKind.wrap .i64 ((IntKind.wrap .i64 (width-1))-s17))) (IntKind.wrap .u8 (Int.tmod n_ (256:Int)))),(s16,((IntKind.wrap .i64 (s17+1)),())))))) (
 some (.inl (b,()))):=by kernel_rfl
theorem j1z (n:Nat) (s:List UInt8):v0r (n+1) s =
 tif ((decide ((512:Int)≤(((List.length s):Nat):Int)))) (
 some s) (
 tif (((decide ((0:Int)≤(IntKind.wrap .i64 ((512:Int)-(((List.length s):Nat):Int)))))&&((decide ((IntKind.wrap .i64 ((512:Int)-(((List.length s):Nat):Int)))≤(IntKind.wrap .i64 ((512:Int)-(((List.length s):Nat):Int)))))&&(decide (((IntKind.wrap .i64 ((512:Int)-(((List.length s):Nat):Int)))*1)≤140737488355328))))) (
 tif ((decide (((List.length s)+(List.length (List.map (fun y1=>(UInt8.ofNat (Int.toNat y1))) (List.replicate (Int.toNat (IntKind.wrap .i64 ((512:Int)-(((List.length s):Nat):Int)))) (0:Int)))))≤9223372036854775807))) (
 some (s++(List.map (fun y0=>(UInt8.ofNat (Int.toNat y0))) (List.replicate (Int.toNat (IntKind.wrap .i64 ((512:Int)-(((List.length s):Nat):Int)))) (0:Int))))) (
 none)) (
 none)):=by kernel_rfl
theorem x0k (n:Nat) (number:Int) (many:Int):f0m (n+1) number many =
 a0d (o0h n (8:Int) number) fun r0 =>
 tif ((decide ((4+(List.length r0))≤9223372036854775807))) (
 a0d (o0h n (4:Int) (IntKind.wrap .u64 many)) fun r1 =>
 tif ((decide (((List.length (((114:UInt8)::((101:UInt8)::((100:UInt8)::((111:UInt8)::[]))))++r0))+(List.length r1))≤9223372036854775807))) (
 a0d (v0r n ((((114:UInt8)::((101:UInt8)::((100:UInt8)::((111:UInt8)::[]))))++r0)++r1)) fun r2 =>
 some (0,r2)) (
 none)) (
 none):=by kernel_rfl
theorem c1g (n:Nat) (d:a0a) (l:(List (Int×List UInt8))):j0n (n+1) d l =
 a0d (k0j n a0c (d,(([],([],(0,false))),(l,((((List.length l):Nat):Int),(0,())))))) fun r0 =>
 d0b (fun y1 =>
 a0d (i0u n y1.1) fun r2 =>
 some r2) (fun z3 =>
 some z3) r0:=by kernel_rfl
theorem o0d (n f:Nat) (d_:a0a) (s4:a0a) (s10:(List (Int×List UInt8))) (s11:Int) (s12:Int):k0j n (f+1) (d_,s4,s10,s11,s12,()) =
 tif ((decide (s12<s11))) (
 a0d (at? s10 s12) fun r0 =>
 a0d (h0b n d_ r0.1 r0.2) fun r1 =>
 tif ((!(decide (r1.2=0)))) (
 some (.inr r1)) (
 k0j n f (r1.1,(s4,(s10,(s11,((IntKind.wrap .i64 (s12+1)),()))))))) (
 some (.inl (d_,(s4,())))):=by kernel_rfl
theorem k0x (n:Nat) (s:(List (Int×List UInt8))) (f_:(((Int×List UInt8)×Unit)→Option Bool)):e0g (n+1) s f_ =
 a0d (j0d n s f_) fun r0 =>
 some (decide ((0:Int)≤r0)):=by kernel_rfl
theorem u0f (n:Nat) (x:(Int×List UInt8)) (p1:a0r):q0y (n+1) x p1 =
 a0d (k0g n p1 x) fun r0 =>
 some (!r0):=by kernel_rfl
theorem v0n (n:Nat) (g:a0r) (x:(Int×List UInt8)):k0g (n+1) g x =
 tif ((decide (g.2.2.1≤x.1))) (
 a0d (d0f n g.1) fun r0 =>
 tif ((decide (x.1<r0))) (
 some (decide ((((List.length x.2):Nat):Int)=512))) (
 some false)) (
 some false):=by kernel_rfl
theorem s0h (n:Nat) (g:a0r) (all:(List (List (Int×List UInt8)))):e0c (n+1) g all =
 a0d (e0t n a0c (g,(all,((((List.length all):Nat):Int),(0,()))))) fun r0 =>
 d0b (fun y1 =>
 some (0,y1.1)) (fun z2 =>
 some z2) r0:=by kernel_rfl
theorem i0k (n f:Nat) (g:a0r) (s8:(List (List (Int×List UInt8)))) (s9:Int) (s10:Int):e0t n (f+1) (g,s8,s9,s10,()) =
 tif ((decide (s10<s9))) (
 a0d (at? s8 s10) fun r0 =>
 a0d (m0g n g r0) fun r1 =>
 tif ((!(decide (r1.1=0)))) (
 some (.inr r1)) (
 e0t n f (r1.2,(s8,(s9,((IntKind.wrap .i64 (s10+1)),())))))) (
 some (.inl (g,()))):=by kernel_rfl
theorem s0g (n:Nat) (g:a0r) (l:(List (Int×List UInt8))):k0z (n+1) g l =
 a0d (j0e n l) fun r0 =>
 a0d (e0s n a0c (g,(r0,((((List.length r0):Nat):Int),(0,()))))) fun r1 =>
 d0b (fun y2 =>
 some (y2.2.1,y2.1)) (fun z3 =>
 some z3) r1:=by kernel_rfl
theorem i0j (n f:Nat) (g:a0r) (out:(List (Int×List UInt8))) (s10:Int) (s11:Int):e0s n (f+1) (g,out,s10,s11,()) =
 tif ((decide (s11<s10))) (
 a0d (at? out s11) fun r0 =>
 a0d ((out)[(Int.toNat s11)]?) fun r1 =>
 e0s n f (g,((List.set out (Int.toNat s11) ((IntKind.wrap .i64 (g.2.2.2+s11)),r1.2)),(s10,((IntKind.wrap .i64 (s11+1)),()))))) (
 some (.inl (g,(out,())))):=by kernel_rfl
theorem s0i (n:Nat) (g:a0r) (l:(List (Int×List UInt8))):l0a (n+1) g l =
 a0d (j0f n l (120:Int)) fun r0 =>
 a0d (e0u n r0 (g,([],()))) fun r1 =>
 some (r1.2.1,r1.1):=by kernel_rfl
theorem n0z (n:Nat) (x:(a0r×((List (Int×List UInt8))×Unit))):e0u n [] x=some x:=by kernel_rfl
theorem n0p (n:Nat) (y:((List (Int×List UInt8))×Unit)) (r:List ((List (Int×List UInt8))×Unit)) (g:a0r) (out:(List (Int×List UInt8))):e0u n (y::r) (g,out,()) =
 a0d (a0d (e0v n a0c (g,(out,([],(y.1,((((List.length y.1):Nat):Int),(0,()))))))) fun r0 =>
 d0b (fun y1 =>
 a0d (i0d n y1.2.2.1) fun r2 =>
 a0d (u0r n r2.1) fun r3 =>
 tif ((decide ((((List.length y1.2.1)+1)*24)≤140737488355328))) (
 some (y1.1,((y1.2.1++(((IntKind.wrap .i64 ((1:Int)+(((List.length y1.2.1):Nat):Int))),r3)::[])),()))) (
 none)) (fun z4 =>
 none) r0) fun r5 =>
 e0u n r r5:=by kernel_rfl
theorem i0l (n f:Nat) (g:a0r) (out:(List (Int×List UInt8))) (w:(List Int)) (s13:(List (Int×List UInt8))) (s14:Int) (s15:Int):e0v n (f+1) (g,out,w,s13,s14,s15,()) =
 tif ((decide (s15<s14))) (
 a0d (at? s13 s15) fun r0 =>
 a0d (d0h n w (4:Int) (IntKind.wrap .u64 r0.1)) fun r1 =>
 e0v n f (g,(out,(r1,(s13,(s14,((IntKind.wrap .i64 (s15+1)),()))))))) (
 some (.inl (g,(out,(w,()))))):=by kernel_rfl
theorem v0l (n:Nat) (number:Int) (many:Int):e0k (n+1) number many =
 a0d (n0l n [] ((114:UInt8)::((101:UInt8)::((100:UInt8)::((111:UInt8)::[]))))) fun r0 =>
 a0d (d0h n r0 (8:Int) number) fun r1 =>
 a0d (d0h n r1 (4:Int) (IntKind.wrap .u64 many)) fun r2 =>
 a0d (i0d n r2) fun r3 =>
 a0d (u0r n r3.1) fun r4 =>
 some (0,r4):=by kernel_rfl
theorem u0j (n:Nat) (d:a0a) (i:Int):e0w (n+1) d i =
 tif (d.2.2.2) (
 some ([],14)) (
 tif ((decide (i<0))) (
 some ([],1)) (
 tif ((decide ((((List.length d.1):Nat):Int)≤i))) (
 some ([],1)) (
 a0d (at? d.1 i) fun r0 =>
 a0d (d0z n a0c (i,(r0,(d.2.1,((((List.length d.2.1):Nat):Int),(0,())))))) fun r1 =>
 d0b (fun y2 =>
 some (y2.1,0)) (fun z3 =>
 some z3) r1))):=by kernel_rfl
theorem j0p (n f:Nat) (i:Int) (s:List UInt8) (s26:(List (Int×List UInt8))) (s27:Int) (s28:Int):d0z n (f+1) (i,s,s26,s27,s28,()) =
 tif ((decide (s28<s27))) (
 a0d (at? s26 s28) fun r0 =>
 tif ((decide (r0.1=i))) (
 d0z n f (i,(r0.2,(s26,(s27,((IntKind.wrap .i64 (s28+1)),())))))) (
 d0z n f (i,(s,(s26,(s27,((IntKind.wrap .i64 (s28+1)),()))))))) (
 some (.inl (s,()))):=by kernel_rfl
theorem q0e (n:Nat) (r:(List UInt8×Bool)) (width:Int):e0a (n+1) r width =
 tif ((decide (width<1))) (
 some (([],true),0)) (
 tif ((decide ((8:Int)<width))) (
 some (([],true),0)) (
 a0d (p0u n r width) fun r0 =>
 a0d (c0h n a0c (r0.1,(([],false),(r0.2,(0,(0,())))))) fun r1 =>
 d0b (fun y2 =>
 some (y2.1,y2.2.2.1)) (fun z3 =>
 some z3) r1)):=by kernel_rfl
theorem g0j (n f:Nat) (r_:(List UInt8×Bool)) (s4:(List UInt8×Bool)) (s:List UInt8) (n_:Int) (i:Int):c0h n (f+1) (r_,s4,s,n_,i,()) =
 tif ((decide (i<(((List.length s):Nat):Int)))) (
 a0d (at? s i) fun r0 =>
 c0h n f (r_,(s4,(s,((IntKind.wrap .u64 ((IntKind.wrap .u64 ((256:Int)*n_))+(IntKind.wrap .u64 (((UInt8.toNat r0):Nat):Int)))),((IntKind.wrap .i64 (i+1)),())))))) (
 some (.inl (r_,(s4,(n_,()))))):=by kernel_rfl
theorem v0m (n:Nat) (g:a0r) (i:Int):n0y (n+1) g i =
 a0d (d0l n g.1 (IntKind.wrap .i64 ((1:Int)+(IntKind.wrap .i64 (Int.tdiv i (120:Int)))))) fun r0 =>
 a0d (d0l n r0.2.2 (IntKind.wrap .i64 (g.2.2.2+i))) fun r1 =>
 tif ((!(decide (r0.2.1=0)))) (
 some ((0,[]),((if r0.2.1<r1.2.1 then r1.2.1 else r0.2.1),(r1.2.2,g.2)))) (
 tif ((!(decide (r1.2.1=0)))) (
 some ((0,[]),((if r0.2.1<r1.2.1 then r1.2.1 else r0.2.1),(r1.2.2,g.2)))) (
 tif ((decide ((0:Int)≤(IntKind.wrap .i64 ((4:Int)*(Int.tmod i (120:Int))))))) (
 tif ((decide ((Int.toNat (IntKind.wrap .i64 ((4:Int)*(Int.tmod i (120:Int)))))≤(List.length r0.1)))) (
 a0d (t0e n (List.drop (Int.toNat (IntKind.wrap .i64 ((4:Int)*(Int.tmod i (120:Int))))) (List.take (List.length r0.1) r0.1))) fun r2 =>
 a0d (d0i n r2 (4:Int)) fun r3 =>
 a0d (k0g n (r1.2.2,g.2) ((IntKind.wrap .i64 r3.1),r1.1)) fun r4 =>
 tif ((!r4)) (
 some ((0,[]),(4,(r1.2.2,g.2)))) (
 some (((IntKind.wrap .i64 r3.1),r1.1),(0,(r1.2.2,g.2))))) (
 none)) (
 none))):=by kernel_rfl
theorem u0h (n:Nat) (d:a0a) (l:(List (Int×List UInt8))):f0x (n+1) d l =
 tif ((decide ((0:Int)<(((List.length l):Nat):Int)))) (
 tif ((decide (((0+(List.length d.1))*16)≤140737488355328))) (
 a0d (f0j n a0c ((([]++d.1),d.2),(([],([],(0,false))),(l,((((List.length l):Nat):Int),(0,())))))) fun r0 =>
 d0b (fun y1 =>
 some (y1.1.1,([],y1.1.2.2))) (fun z2 =>
 some z2) r0) (
 none)) (
 tif ((decide ((0:Int)<(((List.length l):Nat):Int)))) (
 a0d (at? l (0:Int)) fun r3 =>
 a0d (at? d.1 r3.1) fun r4 =>
 none) (
 some (d.1,([],d.2.2)))):=by kernel_rfl
theorem j0o (n f:Nat) (d_:a0a) (s4:a0a) (s15:(List (Int×List UInt8))) (s16:Int) (s17:Int):f0j n (f+1) (d_,s4,s15,s16,s17,()) =
 tif ((decide (s17<s16))) (
 a0d (at? s15 s17) fun r0 =>
 a0d (at? d_.1 r0.1) fun r1 =>
 a0d ((d_.1)[(Int.toNat r0.1)]?) fun r2 =>
 f0j n f (((List.set d_.1 (Int.toNat r0.1) r0.2),d_.2),(s4,(s15,(s16,((IntKind.wrap .i64 (s17+1)),())))))) (
 some (.inl (d_,(s4,())))):=by kernel_rfl
theorem s0y (n:Nat) (d:a0a) (is:((Int×Unit)→Option Bool)):h0f (n+1) d is =
 a0d (d0o n a0c (d,(is,(0,((((List.length d.2.1):Nat):Int),(0,())))))) fun r0 =>
 d0b (fun y1 =>
 some (y1.2.1,(y1.1.1,([],y1.1.2.2)))) (fun z2 =>
 some z2) r0:=by kernel_rfl
theorem i0p (n f:Nat) (d:a0a) (is:((Int×Unit)→Option Bool)) (n_:Int) (s12:Int) (s13:Int):d0o n (f+1) (d,is,n_,s12,s13,()) =
 tif ((decide (s13<s12))) (
 a0d (at? d.2.1 s13) fun r0 =>
 a0d ((d.2.1)[(Int.toNat s13)]?) fun r1 =>
 a0d (is (s13,())) fun r2 =>
 tif (r2) (
 a0d (at? d.1 r1.1) fun r3 =>
 a0d ((d.1)[(Int.toNat r1.1)]?) fun r4 =>
 d0o n f (((List.set d.1 (Int.toNat r1.1) r1.2),d.2),(is,((IntKind.wrap .i64 (n_+1)),(s12,((IntKind.wrap .i64 (s13+1)),())))))) (
 d0o n f (d,(is,(n_,(s12,((IntKind.wrap .i64 (s13+1)),()))))))) (
 some (.inl (d,(n_,())))):=by kernel_rfl
theorem s0z (n:Nat) (i:Int) (p1:(List Bool)):l0f (n+1) i p1 =
 tif ((decide (i<(((List.length p1):Nat):Int)))) (
 a0d (at? p1 i) fun r0 =>
 some r0) (
 some false):=by kernel_rfl
theorem u0g (n:Nat) (d:a0a):i0t (n+1) d =
 tif (d.2.2.2) (
 some (d,false)) (
 tif ((decide (d.2.2.1=1))) (
 some ((d.1,(d.2.1,(0,true))),false)) (
 tif ((decide ((0:Int)<d.2.2.1))) (
 some ((d.1,(d.2.1,((IntKind.wrap .i64 (d.2.2.1-1)),d.2.2.2))),true)) (
 some (d,true)))):=by kernel_rfl
theorem u0l (n:Nat) (d:a0a) (i:Int):m0v (n+1) d i =
 tif ((decide ((0:Int)≤i))) (
 some ((decide (i<(((List.length d.1):Nat):Int))),d)) (
 some (false,d)):=by kernel_rfl
theorem s0x (n:Nat) (d:a0a):h0e (n+1) d =
 tif (d.2.2.2) (
 some (14,d)) (
 tif ((decide (d.2.2.1=1))) (
 some (14,(d.1,(d.2.1,(0,true))))) (
 tif ((decide ((1:Int)<d.2.2.1))) (
 some (0,(d.1,(d.2.1,((IntKind.wrap .i64 (d.2.2.1-1)),d.2.2.2))))) (
 some (0,d)))):=by kernel_rfl
theorem t0z (n:Nat) (c:a0p):g0d (n+1) c =
 a0d (g0u n c) fun r0 =>
 tif ((!(decide (r0=0)))) (
 some (0:Int)) (
 a0d (f0q n c) fun r1 =>
 some (IntKind.wrap .i64 ((IntKind.wrap .i64 ((1:Int)+r1))+c.2.2.2.2))):=by kernel_rfl
theorem b0d (n:Nat) (d:a0a):d0f (n+1) d =
 some (((List.length d.1):Nat):Int):=by kernel_rfl
theorem k0w (n:Nat) (s:(List (List UInt8))) (f_:((List UInt8×Unit)→Option Bool)):e0f (n+1) s f_ =
 a0d (j0c n s f_) fun r0 =>
 some (decide ((0:Int)≤r0)):=by kernel_rfl
theorem u0e (n:Nat) (s:List UInt8):q0x (n+1) s =
 some (!(decide ((((List.length s):Nat):Int)=512))):=by kernel_rfl
theorem s0b (n:Nat) (s:List UInt8):t0e (n+1) s =
 some (s,false):=by kernel_rfl
theorem j0y (n:Nat) (r:(List UInt8×Bool)) (n_:Int):i0e (n+1) r n_ =
 tif (r.2) (
 a0d (c0p n r) fun r0 =>
 some ([],r0)) (
 tif ((decide (n_<0))) (
 a0d (c0p n r) fun r1 =>
 some ([],r1)) (
 tif ((decide ((((List.length r.1):Nat):Int)<n_))) (
 a0d (c0p n r) fun r2 =>
 some ([],r2)) (
 tif (((decide ((0:Int)≤n_))&&(decide (n_≤(((List.length r.1):Nat):Int))))) (
 tif ((decide ((0:Int)≤n_))) (
 tif ((decide ((Int.toNat n_)≤(List.length r.1)))) (
 some ((List.drop 0 (List.take (Int.toNat n_) r.1)),((List.drop (Int.toNat n_) (List.take (List.length r.1) r.1)),r.2))) (
 none)) (
 none)) (
 none)))):=by kernel_rfl
theorem o0w (n:Nat) (r:(List UInt8×Bool)) (width:Int):d0i (n+1) r width =
 tif ((decide (width<1))) (
 a0d (c0p n r) fun r0 =>
 some ((0:Int),r0)) (
 tif ((decide ((8:Int)<width))) (
 a0d (c0p n r) fun r1 =>
 some ((0:Int),r1)) (
 a0d (i0e n r width) fun r2 =>
 a0d (b0w n a0c (r2.2,((0:Int),((List.map (fun y3=>(((UInt8.toNat y3):Nat):Int)) r2.1),((((List.length (List.map (fun y4=>(((UInt8.toNat y4):Nat):Int)) r2.1)):Nat):Int),((0:Int),())))))) fun r5 =>
 d0b (fun y6 =>
 some (y6.2.1,y6.1)) (fun z7 =>
 some z7) r5)):=by kernel_rfl
theorem f0s (n f:Nat) (r:(List UInt8×Bool)) (n_:Int) (s19:(List Int)) (s20:Int) (s21:Int):b0w n (f+1) (r,n_,s19,s20,s21,()) =
 tif ((decide (s21<s20))) (
 a0d (at? s19 s21) fun r0 =>
 b0w n f (r,((orI .u64 (shlI .u64 n_ (8:Int)) (IntKind.wrap .u64 r0)),(s19,(s20,((IntKind.wrap .i64 (s21+1)),())))))) (
 some (.inl (r,(n_,())))):=by kernel_rfl
theorem q0s (n:Nat) (s:(List (List UInt8))):n0u (n+1) s =
 tif ((decide ((List.length s)=0))) (
 both (
 some []) (
 tif ((decide (((0+(List.length s))*16)≤140737488355328))) (
 some ([]++s)) (
 none))) (
 tif ((decide (((0+(List.length s))*16)≤140737488355328))) (
 some ([]++s)) (
 none)):=by kernel_rfl
theorem k0c (n:Nat) (s:(List (Int×List UInt8))):j0e (n+1) s =
 tif ((decide ((List.length s)=0))) (
 both (
 some []) (
 tif ((decide (((0+(List.length s))*24)≤140737488355328))) (
 some ([]++s)) (
 none))) (
 tif ((decide (((0+(List.length s))*24)≤140737488355328))) (
 some ([]++s)) (
 none)):=by kernel_rfl
theorem r0z (n:Nat) (c:a0p):g0u (n+1) c =
 a0d (e0n n c.1 (1:Int) (4096:Int)) fun r0 =>
 tif (r0) (
 a0d (e0n n c.2.2.2.1 (1:Int) (65536:Int)) fun r1 =>
 tif (r1) (
 a0d (e0n n c.2.2.2.2 (1:Int) (8192:Int)) fun r2 =>
 tif (r2) (
 a0d (g0c n c.2.1.1 (1:Int) (1099511627776:Int)) fun r3 =>
 tif (r3) (
 a0d (e0n n c.2.2.1.1 (1:Int) (4096:Int)) fun r4 =>
 tif (r4) (
 a0d (g0c n c.2.1.2.1 (1:Int) (1099511627776:Int)) fun r5 =>
 tif (r5) (
 a0d (e0n n c.2.2.1.2.1 (1:Int) (4096:Int)) fun r6 =>
 tif (r6) (
 a0d (g0c n c.2.1.2.2 (1:Int) (1099511627776:Int)) fun r7 =>
 tif (r7) (
 a0d (e0n n c.2.2.1.2.2 (1:Int) (4096:Int)) fun r8 =>
 tif (r8) (
 tif ((decide (c.2.1.1=0))) (
 none) (
 tif ((decide ((Int.tmod c.2.1.2.1 c.2.1.1)=0))) (
 tif ((decide (c.2.1.1=0))) (
 none) (
 tif ((decide ((IntKind.wrap .i64 (Int.tdiv c.2.1.2.1 c.2.1.1))≤c.2.2.1.1))) (
 tif ((decide (c.2.1.2.1=0))) (
 none) (
 tif ((decide ((Int.tmod c.2.1.2.2 c.2.1.2.1)=0))) (
 tif ((decide (c.2.1.2.1=0))) (
 none) (
 tif ((decide ((IntKind.wrap .i64 (Int.tdiv c.2.1.2.2 c.2.1.2.1))≤c.2.2.1.2.1))) (
 tif ((!(decide ((IntKind.wrap .i64 (Int.tdiv c.2.1.2.2 c.2.1.2.1))≤c.2.2.1.2.1)))) (
 some (2:Int)) (
 a0d (g0s n c) fun r9 =>
 tif ((decide (c.2.2.2.2≤r9))) (
 some (2:Int)) (
 some (0:Int)))) (
 tif ((!(decide ((IntKind.wrap .i64 (Int.tdiv c.2.1.2.2 c.2.1.2.1))≤c.2.2.1.2.1)))) (
 some (2:Int)) (
 a0d (g0s n c) fun r10 =>
 tif ((decide (c.2.2.2.2≤r10))) (
 some (2:Int)) (
 some (0:Int)))))) (
 some (2:Int)))) (
 tif ((!(decide ((IntKind.wrap .i64 (Int.tdiv c.2.1.2.1 c.2.1.1))≤c.2.2.1.1)))) (
 some (2:Int)) (
 a0d (g0s n c) fun r11 =>
 tif ((decide (c.2.2.2.2≤r11))) (
 some (2:Int)) (
 some (0:Int)))))) (
 some (2:Int)))) (
 tif ((!r8)) (
 some (2:Int)) (
 a0d (g0s n c) fun r12 =>
 tif ((decide (c.2.2.2.2≤r12))) (
 some (2:Int)) (
 some (0:Int))))) (
 some (2:Int))) (
 some (2:Int))) (
 some (2:Int))) (
 some (2:Int))) (
 some (2:Int))) (
 some (2:Int))) (
 some (2:Int))) (
 some (2:Int)):=by kernel_rfl
theorem r0x (n:Nat) (c:a0p):p0l (n+1) c =
 a0d (g0u n c) fun r0 =>
 tif ((!(decide (r0=0)))) (
 some (0:Int)) (
 a0d (g0s n c) fun r1 =>
 some r1):=by kernel_rfl
theorem v0u (n:Nat) (c:a0p):u0s (n+1) c =
 a0d (j0r n c) fun r0 =>
 tif ((!(decide (r0=0)))) (
 some (0,2)) (
 a0d (m0m n c) fun r1 =>
 a0d (v0v n c) fun r2 =>
 tif ((decide ((16777216:Int)<(IntKind.wrap .i64 ((IntKind.wrap .i64 (r1+1))+(IntKind.wrap .i64 (c.2.2.2.1*r2))))))) (
 some (0,1)) (
 some ((IntKind.wrap .i64 ((IntKind.wrap .i64 (r1+1))+(IntKind.wrap .i64 (c.2.2.2.1*r2)))),0))):=by kernel_rfl
theorem t0q (n:Nat) (c:a0p):j0r (n+1) c =
 tif ((decide (c.1<1))) (
 some (2:Int)) (
 tif ((decide ((4096:Int)<c.1))) (
 some (2:Int)) (
 tif ((decide (c.2.2.2.1<1))) (
 some (2:Int)) (
 tif ((decide ((65536:Int)<c.2.2.2.1))) (
 some (2:Int)) (
 tif ((decide (c.2.2.2.2<1))) (
 some (2:Int)) (
 tif ((decide ((8192:Int)<c.2.2.2.2))) (
 some (2:Int)) (
 tif ((decide (c.2.1.1<1))) (
 some (2:Int)) (
 tif ((decide ((1099511627776:Int)<c.2.1.1))) (
 some (2:Int)) (
 tif ((decide (c.2.2.1.1<1))) (
 some (2:Int)) (
 tif ((decide ((4096:Int)<c.2.2.1.1))) (
 some (2:Int)) (
 tif ((decide (c.2.1.2.1<1))) (
 some (2:Int)) (
 tif ((decide ((1099511627776:Int)<c.2.1.2.1))) (
 some (2:Int)) (
 tif ((decide (c.2.2.1.2.1<1))) (
 some (2:Int)) (
 tif ((decide ((4096:Int)<c.2.2.1.2.1))) (
 some (2:Int)) (
 tif ((decide (c.2.1.1=0))) (
 none) (
 tif ((!(decide ((Int.tmod c.2.1.2.1 c.2.1.1)=0)))) (
 some (2:Int)) (
 tif ((decide (c.2.1.1=0))) (
 none) (
 tif ((decide (c.2.2.1.1<(IntKind.wrap .i64 (Int.tdiv c.2.1.2.1 c.2.1.1))))) (
 some (2:Int)) (
 tif ((decide (c.2.1.2.2<1))) (
 some (2:Int)) (
 tif ((decide ((1099511627776:Int)<c.2.1.2.2))) (
 some (2:Int)) (
 tif ((decide (c.2.2.1.2.2<1))) (
 some (2:Int)) (
 tif ((decide ((4096:Int)<c.2.2.1.2.2))) (
 some (2:Int)) (
 tif ((decide (c.2.1.2.1=0))) (
 none) (
 tif ((!(decide ((Int.tmod c.2.1.2.2 c.2.1.2.1)=0)))) (
 some (2:Int)) (
 tif ((decide (c.2.1.2.1=0))) (
 none) (
 tif ((decide (c.2.2.1.2.1<(IntKind.wrap .i64 (Int.tdiv c.2.1.2.2 c.2.1.2.1))))) (
 some (2:Int)) (
 a0d (r0e n c) fun r0 =>
 tif ((decide (c.2.2.2.2≤r0))) (
 some (2:Int)) (
 some (0:Int)))))))))))))))))))))))))))):=by kernel_rfl
theorem c1i (n:Nat) (n_:Int) (each:Int):j0q (n+1) n_ each =
 a0d (k0l n a0c (n_,(each,(0,())))) fun r0 =>
 d0b (fun y1 =>
 some y1.1) (fun z2 =>
 some z2) r0:=by kernel_rfl
theorem o0e (n f:Nat) (n_:Int) (each:Int) (k:Int):k0l n (f+1) (n_,each,k,()) =
 tif ((decide ((0:Int)<n_))) (
 k0l n f ((IntKind.wrap .i64 (n_-each)),(each,((IntKind.wrap .i64 (k+1)),())))) (
 some (.inl (k,()))):=by kernel_rfl
theorem u0i (n:Nat) (d:a0a):i0u (n+1) d =
 a0d (i0t n d) fun r0 =>
 tif ((!r0.2)) (
 some (r0.1,14)) (
 a0d (f0x n r0.1 r0.1.2.1) fun r1 =>
 some (r1,0)):=by kernel_rfl
theorem r0y (n:Nat) (c:a0p):f0q (n+1) c =
 a0d (g0u n c) fun r0 =>
 tif ((!(decide (r0=0)))) (
 some (0:Int)) (
 a0d (g0t n c.2.2.2.2 (120:Int)) fun r1 =>
 some r1):=by kernel_rfl
theorem n0o (n:Nat) (s:(List (Int×List UInt8))) (f_:(((Int×List UInt8)×Unit)→Option Bool)):j0d (n+1) s f_ =
 a0d (c0z n a0c (s,(f_,((((List.length s):Nat):Int),(0,()))))) fun r0 =>
 d0b (fun y1 =>
 some ((-1):Int)) (fun z2 =>
 some z2) r0:=by kernel_rfl
theorem f0e (n f:Nat) (s:(List (Int×List UInt8))) (f_:(((Int×List UInt8)×Unit)→Option Bool)) (s7:Int) (s8:Int):c0z n (f+1) (s,f_,s7,s8,()) =
 tif ((decide (s8<s7))) (
 a0d (at? s s8) fun r0 =>
 a0d (f_ (r0,())) fun r1 =>
 tif (r1) (
 some (.inr s8)) (
 c0z n f (s,(f_,(s7,((IntKind.wrap .i64 (s8+1)),())))))) (
 some (.inl ())):=by kernel_rfl
theorem u0d (n:Nat) (g:a0r) (l:(List (Int×List UInt8))):m0g (n+1) g l =
 a0d (f0h n a0c (g,(l,((((List.length l):Nat):Int),(0,()))))) fun r0 =>
 d0b (fun y1 =>
 a0d (h0g n y1.1.1) fun r2 =>
 some (r2.1,(r2.2,y1.1.2))) (fun z3 =>
 some z3) r0:=by kernel_rfl
theorem j0j (n f:Nat) (g:a0r) (s8:(List (Int×List UInt8))) (s9:Int) (s10:Int):f0h n (f+1) (g,s8,s9,s10,()) =
 tif ((decide (s10<s9))) (
 a0d (at? s8 s10) fun r0 =>
 a0d (g0b n g.1 r0.1 r0.2) fun r1 =>
 tif ((!(decide (r1.1=0)))) (
 some (.inr (r1.1,(r1.2,g.2)))) (
 f0h n f ((r1.2,g.2),(s8,(s9,((IntKind.wrap .i64 (s10+1)),())))))) (
 some (.inl (g,()))):=by kernel_rfl
theorem o0v (n:Nat) (w:(List Int)) (width:Int) (n_:Int):d0h (n+1) w width n_ =
 tif ((decide (width<1))) (
 some w) (
 tif ((decide ((8:Int)<width))) (
 some w) (
 a0d (d0g n a0c (w,(n_,((IntKind.wrap .i64 ((8:Int)*(IntKind.wrap .i64 (width-1)))),())))) fun r0 =>
 d0b (fun y1 =>
 some y1.1) (fun z2 =>
 some z2) r0)):=by kernel_rfl
theorem f0r (n f:Nat) (w:(List Int)) (n_:Int) (up:Int):d0g n (f+1) (w,n_,up,()) =
 tif ((decide ((0:Int)≤up))) (
 tif ((decide (up<0))) (
 none) (
 tif ((decide ((((List.length w)+1)*1)≤140737488355328))) (
 d0g n f ((w++((IntKind.wrap .u8 (shrI .u64 n_ up))::[])),(n_,((IntKind.wrap .i64 (up-8)),())))) (
 none))) (
 some (.inl (w,()))):=by kernel_rfl
theorem e1y (n:Nat) (s:List UInt8):u0r (n+1) s =
 a0d (strings_Repeat n ((0:UInt8)::[]) (IntKind.wrap .i64 ((512:Int)-(((List.length s):Nat):Int)))) fun r0 =>
 tif ((decide (((List.length s)+(List.length r0))≤9223372036854775807))) (
 some (s++r0)) (
 none):=by kernel_rfl
theorem j0x (n:Nat) (w:(List Int)):i0d (n+1) w =
 some ((List.map (fun y0=>(UInt8.ofNat (Int.toNat y0))) w),w):=by kernel_rfl
theorem q0j (n:Nat) (w:(List Int)) (s:List UInt8):n0l (n+1) w s =
 tif ((decide ((((List.length w)+(List.length (List.map (fun y1=>(((UInt8.toNat y1):Nat):Int)) s)))*1)≤140737488355328))) (
 some (w++(List.map (fun y0=>(((UInt8.toNat y0):Nat):Int)) s))) (
 none):=by kernel_rfl
theorem s0m (n:Nat) (r:(List UInt8×Bool)) (n_:Int):p0u (n+1) r n_ =
 tif (r.2) (
 some (([],true),[])) (
 tif ((decide (n_<0))) (
 some (([],true),[])) (
 tif ((decide ((((List.length r.1):Nat):Int)<n_))) (
 some (([],true),[])) (
 tif ((decide ((0:Int)≤n_))) (
 tif ((decide ((Int.toNat n_)≤(List.length r.1)))) (
 tif (((decide ((0:Int)≤n_))&&(decide (n_≤(((List.length r.1):Nat):Int))))) (
 some (((List.drop (Int.toNat n_) (List.take (List.length r.1) r.1)),false),(List.drop 0 (List.take (Int.toNat n_) r.1)))) (
 none)) (
 none)) (
 none)))):=by kernel_rfl
theorem n0n (n:Nat) (s:(List (List UInt8))) (f_:((List UInt8×Unit)→Option Bool)):j0c (n+1) s f_ =
 a0d (c0y n a0c (s,(f_,((((List.length s):Nat):Int),(0,()))))) fun r0 =>
 d0b (fun y1 =>
 some ((-1):Int)) (fun z2 =>
 some z2) r0:=by kernel_rfl
theorem f0d (n f:Nat) (s:(List (List UInt8))) (f_:((List UInt8×Unit)→Option Bool)) (s7:Int) (s8:Int):c0y n (f+1) (s,f_,s7,s8,()) =
 tif ((decide (s8<s7))) (
 a0d (at? s s8) fun r0 =>
 a0d (f_ (r0,())) fun r1 =>
 tif (r1) (
 some (.inr s8)) (
 c0y n f (s,(f_,(s7,((IntKind.wrap .i64 (s8+1)),())))))) (
 some (.inl ())):=by kernel_rfl
theorem p0q (n:Nat) (r:(List UInt8×Bool)):c0p (n+1) r =
 some ([],true):=by kernel_rfl
theorem r0k (n:Nat) (x:Int) (y:Int):j0u (n+1) x y =
 some ((IntKind.wrap .u64 ((IntKind.wrap .u64 ((IntKind.wrap .u64 ((shrI .u64 x (32:Int))*(shrI .u64 y (32:Int))))+(shrI .u64 (IntKind.wrap .u64 ((IntKind.wrap .u64 ((shrI .u64 x (32:Int))*(andI .u64 y (4294967295:Int))))+(shrI .u64 (IntKind.wrap .u64 ((andI .u64 x (4294967295:Int))*(andI .u64 y (4294967295:Int)))) (32:Int)))) (32:Int))))+(shrI .u64 (IntKind.wrap .u64 ((andI .u64 (IntKind.wrap .u64 ((IntKind.wrap .u64 ((shrI .u64 x (32:Int))*(andI .u64 y (4294967295:Int))))+(shrI .u64 (IntKind.wrap .u64 ((andI .u64 x (4294967295:Int))*(andI .u64 y (4294967295:Int)))) (32:Int)))) (4294967295:Int))+(IntKind.wrap .u64 ((andI .u64 x (4294967295:Int))*(shrI .u64 y (32:Int)))))) (32:Int)))),(IntKind.wrap .u64 (x*y))):=by kernel_rfl
theorem x0z (n:Nat) (n_:Int) (low:Int) (high:Int):e0n (n+1) n_ low high =
 tif ((decide (low≤n_))) (
 some (decide (n_≤high))) (
 some false):=by kernel_rfl
theorem u0n (n:Nat) (n_:Int) (low:Int) (high:Int):g0c (n+1) n_ low high =
 tif ((decide (low≤n_))) (
 some (decide (n_≤high))) (
 some false):=by kernel_rfl
theorem b1l (n:Nat) (c:a0p):g0s (n+1) c =
 a0d (g0t n c.1 (16:Int)) fun r0 =>
 a0d (g0t n c.2.2.1.1 (4:Int)) fun r1 =>
 a0d (g0t n c.2.2.1.2.1 (4:Int)) fun r2 =>
 a0d (g0t n c.2.2.1.2.2 (4:Int)) fun r3 =>
 some (IntKind.wrap .i64 ((IntKind.wrap .i64 ((IntKind.wrap .i64 ((IntKind.wrap .i64 ((1:Int)+r0))+r1))+r2))+r3)):=by kernel_rfl
theorem c1k (n:Nat) (c:a0p):v0v (n+1) c =
 a0d (j0r n c) fun r0 =>
 tif ((!(decide (r0=0)))) (
 some (0:Int)) (
 a0d (r0e n c) fun r1 =>
 some r1):=by kernel_rfl
theorem c1h (n:Nat) (c:a0p):r0e (n+1) c =
 a0d (j0q n c.1 (16:Int)) fun r0 =>
 a0d (j0q n c.2.2.1.1 (4:Int)) fun r1 =>
 a0d (j0q n c.2.2.1.2.1 (4:Int)) fun r2 =>
 a0d (j0q n c.2.2.1.2.2 (4:Int)) fun r3 =>
 some (IntKind.wrap .i64 ((IntKind.wrap .i64 ((IntKind.wrap .i64 ((IntKind.wrap .i64 ((1:Int)+r0))+r1))+r2))+r3)):=by kernel_rfl
theorem b1m (n:Nat) (n_:Int) (by_:Int):g0t (n+1) n_ by_ =
 tif ((decide (by_=0))) (
 none) (
 some (IntKind.wrap .i64 (Int.tdiv (IntKind.wrap .i64 ((IntKind.wrap .i64 (n_+by_))-1)) by_))):=by kernel_rfl
theorem t0a (n:Nat) (d:a0a):h0g (n+1) d =
 a0d (h0e n d) fun r0 =>
 tif ((decide (r0.1=0))) (
 a0d (h0f n r0.2 (fun y1=>i0c n y1.1)) fun r2 =>
 some (r0.1,r2.2)) (
 some r0):=by kernel_rfl
theorem q0i (n:Nat) (p0:Int):i0c (n+1) p0 =
 some true:=by kernel_rfl
theorem t0c (n:Nat) (x0:List (List UInt8)×(List (Int×List UInt8)×(Int×Bool))) (x1:Int):d0l (n+1) x0 x1=t0x x0 x1:=by
    have h:d0l (n+1) x0 x1=Option.bind (t0x x0 x1) (fun z=>some z):=by kernel_rfl
    rw[h];cases t0x x0 x1<;>rfl
theorem m0d (n:Nat) (x0:List UInt8) (x1:Int):c0o (n+1) x0 x1=g1c x0 x1:=by
    have h:c0o (n+1) x0 x1=Option.bind (g1c x0 x1) (fun z=>some z):=by kernel_rfl
    rw[h];cases g1c x0 x1<;>rfl
theorem h0o (n:Nat) (x0:List UInt8) (x1:List UInt8):b0h (n+1) x0 x1=e0l x0 x1:=by
    have h:b0h (n+1) x0 x1=Option.bind (e0l x0 x1) (fun z=>some z):=by kernel_rfl
    rw[h];cases e0l x0 x1<;>rfl
theorem c0x (n:Nat) (x0:List UInt8):d0u (n+1) x0=some ((x0.length:Int),x0):=by kernel_rfl
theorem f0c (n:Nat) (x0:List UInt8):c0w (n+1) x0=some (x0,x0):=by kernel_rfl
theorem q0t (n:Nat) (x0:List ((Int×List UInt8))) (x1:Int):j0f (n+1) x0 x1=t0v x0 x1:=by
    have h:j0f (n+1) x0 x1=Option.bind (t0v x0 x1) (fun z=>some z):=by kernel_rfl
    rw[h];cases t0v x0 x1<;>rfl
end Go.Proofs.YtmcgmijdnfcfgaaGreat
