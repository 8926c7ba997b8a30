/- Trees, printed by program. -/
import Derived.Test.YtjffajodppnejaaGreatDoorTr0
import Derived.KernelRfl
set_option linter.unusedVariables false
namespace Go.Proofs.YtjffajodppnejaaGreatDoor
open Go.Flat
theorem x0y (n:Nat) (s:a0z) (rows:(List TRow)) (n_:Int):t0k (n+1) s rows n_ =
 a0a (c1f n ) fun r0 =>
 tif ((!r0)) (
 some false) (
 a0a (w0f n s) fun r1 =>
 tif ((decide (r1=0))) (
 some true) (
 a0a (w0e n rows) fun r2 =>
 tif ((decide (r2=0))) (
 some true) (
 a0a (n0g n s) fun r3 =>
 tif ((!(decide (r3=0)))) (
 some true) (
 tif ((decide ((4:Int)<(((List.length s.2.2.2):Nat):Int)))) (
 some true) (
 tif ((decide ((40:Int)<s.1.2.2.1.1))) (
 some true) (
 tif ((decide ((40:Int)<s.1.2.2.1.2.1))) (
 some true) (
 tif ((decide ((40:Int)<s.1.2.2.1.2.2))) (
 some true) (
 tif ((decide ((64:Int)<s.1.1))) (
 some true) (
 tif ((decide (n_<1))) (
 a0a (e0x n s.1) fun r4 =>
 tif ((decide (r4<1))) (
 some false) (
 a0a (d0k n r4 rows) fun r5 =>
 a0a (b0e n a0b (rows,(r4,(s,(0,(r5,((((List.length r5):Nat):Int),(0,())))))))) fun r6 =>
 b0z (fun y7 =>
 some (decide (y7.2.1=(((List.length y7.1):Nat):Int)))) (fun z8 =>
 some z8) r6)) (
 tif ((decide (n_<1))) (
 some false) (
 a0a (d0k n n_ rows) fun r9 =>
 a0a (b0e n a0b (rows,(n_,(s,(0,(r9,((((List.length r9):Nat):Int),(0,())))))))) fun r10 =>
 b0z (fun y11 =>
 some (decide (y11.2.1=(((List.length y11.1):Nat):Int)))) (fun z12 =>
 some z12) r10))))))))))):=by kernel_rfl
theorem j0f (n f:Nat) (rows:(List TRow)) (n_:Int) (s_:a0z) (at_:Int) (s71:(List (List TRow))) (s72:Int) (s73:Int):b0e n (f+1) (rows,n_,s_,at_,s71,s72,s73,()) =
 tif ((decide (s73<s72))) (
 a0a (at? s71 s73) fun r0 =>
 tif ((decide ((((List.length r0):Nat):Int)=0))) (
 some (.inr false)) (
 tif ((decide ((IntKind.wrap .i64 ((((List.length rows):Nat):Int)-at_))<(((List.length r0):Nat):Int)))) (
 some (.inr false)) (
 tif ((decide ((0:Int)≤at_))) (
 tif (((decide ((((Int.toNat at_):Nat):Int)≤(IntKind.wrap .i64 (at_+(((List.length r0):Nat):Int)))))&&(decide ((IntKind.wrap .i64 (at_+(((List.length r0):Nat):Int)))≤(((List.length rows):Nat):Int))))) (
 a0a (j0b n r0 (List.drop (Int.toNat at_) (List.take (Int.toNat (IntKind.wrap .i64 (at_+(((List.length r0):Nat):Int)))) rows))) fun r1 =>
 tif ((!r1)) (
 some (.inr false)) (
 a0a (a1g n r0) fun r2 =>
 tif ((decide (n_<r2))) (
 some (.inr false)) (
 tif ((decide ((IntKind.wrap .i64 (at_+(((List.length r0):Nat):Int)))<(((List.length rows):Nat):Int)))) (
 tif ((decide ((0:Int)≤(IntKind.wrap .i64 ((IntKind.wrap .i64 (at_+(((List.length r0):Nat):Int)))-(((List.length r0):Nat):Int)))))) (
 tif (((decide ((((Int.toNat (IntKind.wrap .i64 ((IntKind.wrap .i64 (at_+(((List.length r0):Nat):Int)))-(((List.length r0):Nat):Int)))):Nat):Int)≤(IntKind.wrap .i64 ((IntKind.wrap .i64 (at_+(((List.length r0):Nat):Int)))+1))))&&(decide ((IntKind.wrap .i64 ((IntKind.wrap .i64 (at_+(((List.length r0):Nat):Int)))+1))≤(((List.length rows):Nat):Int))))) (
 a0a (a1g n (List.drop (Int.toNat (IntKind.wrap .i64 ((IntKind.wrap .i64 (at_+(((List.length r0):Nat):Int)))-(((List.length r0):Nat):Int)))) (List.take (Int.toNat (IntKind.wrap .i64 ((IntKind.wrap .i64 (at_+(((List.length r0):Nat):Int)))+1))) rows))) fun r3 =>
 tif ((decide (r3≤n_))) (
 some (.inr false)) (
 a0a (j0i n s_) fun r4 =>
 a0a (i0q n s_ r0) fun r5 =>
 a0a (j0i n r5.1) fun r6 =>
 tif ((!(decide (r4.2=0)))) (
 some (.inr false)) (
 tif ((!(decide (r6.2=0)))) (
 some (.inr false)) (
 a0a (e0x n r5.1.1) fun r7 =>
 tif ((decide (n_≤r7))) (
 a0a (n0z n r4.1 r6.1 (0:Int)) fun r8 =>
 tif ((decide (r5.1.1.2.2.2.2<(((List.length r8):Nat):Int)))) (
 some (.inr false)) (
 b0e n f (rows,(n_,(r5.1,((IntKind.wrap .i64 (at_+(((List.length r0):Nat):Int))),(s71,(s72,((IntKind.wrap .i64 (s73+1)),()))))))))) (
 b0e n f (rows,(n_,(r5.1,((IntKind.wrap .i64 (at_+(((List.length r0):Nat):Int))),(s71,(s72,((IntKind.wrap .i64 (s73+1)),())))))))))))) (
 none)) (
 none)) (
 a0a (j0i n s_) fun r9 =>
 a0a (i0q n s_ r0) fun r10 =>
 a0a (j0i n r10.1) fun r11 =>
 tif ((!(decide (r9.2=0)))) (
 some (.inr false)) (
 tif ((!(decide (r11.2=0)))) (
 some (.inr false)) (
 a0a (e0x n r10.1.1) fun r12 =>
 tif ((decide (n_≤r12))) (
 a0a (n0z n r9.1 r11.1 (0:Int)) fun r13 =>
 tif ((decide (r10.1.1.2.2.2.2<(((List.length r13):Nat):Int)))) (
 some (.inr false)) (
 b0e n f (rows,(n_,(r10.1,((IntKind.wrap .i64 (at_+(((List.length r0):Nat):Int))),(s71,(s72,((IntKind.wrap .i64 (s73+1)),()))))))))) (
 b0e n f (rows,(n_,(r10.1,((IntKind.wrap .i64 (at_+(((List.length r0):Nat):Int))),(s71,(s72,((IntKind.wrap .i64 (s73+1)),())))))))))))))) (
 none)) (
 none)))) (
 some (.inl (rows,(at_,())))):=by kernel_rfl
theorem o1y (n:Nat) (s:a0z):w0f (n+1) s =
 tif ((decide ((8:Int)<(((List.length s.2.2.2):Nat):Int)))) (
 some (0:Int)) (
 a0a (j0g n a0b (s.2.2.2,((((List.length s.2.2.2):Nat):Int),(0,())))) fun r0 =>
 b0z (fun y1 =>
 some (1:Int)) (fun z2 =>
 some z2) r0):=by kernel_rfl
theorem r0d (n f:Nat) (s10:(List b0x)) (s11:Int) (s12:Int):j0g n (f+1) (s10,s11,s12,()) =
 tif ((decide (s12<s11))) (
 a0a (at? s10 s12) fun r0 =>
 a0a (w0g n r0) fun r1 =>
 tif ((decide (r1=0))) (
 some (.inr (0:Int))) (
 j0g n f (s10,(s11,((IntKind.wrap .i64 (s12+1)),()))))) (
 some (.inl ())):=by kernel_rfl
theorem o1x (n:Nat) (rows:(List TRow)):w0e (n+1) rows =
 tif ((decide ((40:Int)<(((List.length rows):Nat):Int)))) (
 some (0:Int)) (
 a0a (j0e n a0b (rows,((((List.length rows):Nat):Int),(0,())))) fun r0 =>
 b0z (fun y1 =>
 some (1:Int)) (fun z2 =>
 some z2) r0):=by kernel_rfl
theorem r0c (n f:Nat) (s8:(List TRow)) (s9:Int) (s10:Int):j0e n (f+1) (s8,s9,s10,()) =
 tif ((decide (s10<s9))) (
 a0a (at? s8 s10) fun r0 =>
 a0a (l0j n r0.1) fun r1 =>
 tif ((decide (r1=0))) (
 some (.inr (0:Int))) (
 j0e n f (s8,(s9,((IntKind.wrap .i64 (s10+1)),()))))) (
 some (.inl ())):=by kernel_rfl
theorem n1p (n:Nat) (s:a0z):n0g (n+1) s =
 a0a (r0v n s) fun r0 =>
 tif ((!(decide (r0.2=0)))) (
 some (2:Int)) (
 a0a (m0n n r0.1) fun r1 =>
 tif ((!r1)) (
 some (2:Int)) (
 a0a (d0x n r0.1 (fun y2=>e0p n y2.1 r0.1)) fun r3 =>
 tif ((decide ((0:Int)≤r3))) (
 some (2:Int)) (
 some (0:Int)))):=by kernel_rfl
theorem m1p (n:Nat) (c:b0t):e0x (n+1) c =
 a0a (d0e n c) fun r0 =>
 tif ((!(decide (r0=0)))) (
 some (0:Int)) (
 a0a (s0n n c) fun r1 =>
 tif ((decide (r1=0))) (
 none) (
 some (IntKind.wrap .i64 (Int.tdiv c.2.2.2.2 r1)))):=by kernel_rfl
theorem f1o (n:Nat) (n_:Int) (rows:(List TRow)):d0k (n+2) n_ rows =
 tif ((decide (n_<1))) (
 some []) (
 tif ((true&&(true&&(true&&true)))) (
 a0a (c0l (n+1) a0b (n_,(rows,([],([],(0,(rows,((((List.length rows):Nat):Int),(0,()))))))))) fun r0 =>
 b0z (fun y1 =>
 tif ((decide (y1.2.2.1<(((List.length y1.1):Nat):Int)))) (
 tif ((decide ((0:Int)≤y1.2.2.1))) (
 tif (((decide ((((Int.toNat y1.2.2.1):Nat):Int)≤(((List.length y1.1):Nat):Int)))&&(decide ((((List.length y1.1):Nat):Int)≤(((List.length y1.1):Nat):Int))))) (
 a0a (l0v n (List.drop (Int.toNat y1.2.2.1) (List.take (Int.toNat (((List.length y1.1):Nat):Int)) y1.1))) fun r2 =>
 tif ((decide ((((List.length y1.2.1)+1)*24)≤140737488355328))) (
 some (y1.2.1++(r2::[]))) (
 none)) (
 none)) (
 none)) (
 some y1.2.1)) (fun z3 =>
 some z3) r0) (
 none)):=by kernel_rfl
theorem o0g (n f:Nat) (n_:Int) (rows_:(List TRow)) (out:(List (List TRow))) (seen:(List (List UInt8×Int))) (from_:Int) (s16:(List TRow)) (s17:Int) (s18:Int):c0l (n+1) (f+1) (n_,rows_,out,seen,from_,s16,s17,s18,()) =
 tif ((decide (s18<s17))) (
 a0a (at? s16 s18) fun r0 =>
 a0a (d1b (n+1) r0.1) fun r1 =>
 tif ((decide ((((List.length seen):Nat):Int)=n_))) (
 tif ((decide ((mgetI .str .i64 seen r1).1=0))) (
 tif ((decide (from_<s18))) (
 tif ((decide ((0:Int)≤from_))) (
 tif (((decide ((((Int.toNat from_):Nat):Int)≤s18))&&(decide (s18≤(((List.length rows_):Nat):Int))))) (
 a0a (l0v n (List.drop (Int.toNat from_) (List.take (Int.toNat s18) rows_))) fun r2 =>
 tif ((decide ((((List.length out)+1)*24)≤140737488355328))) (
 tif ((true&&(true&&true))) (
 c0l (n+1) f (n_,(rows_,((out++(r2::[])),((mput .str (.int .i64) [] r1 (IntKind.wrap .i64 ((mgetI .str .i64 [] r1).1+1))),(s18,(s16,(s17,((IntKind.wrap .i64 (s18+1)),()))))))))) (
 none)) (
 none)) (
 none)) (
 none)) (
 tif ((true&&(true&&true))) (
 c0l (n+1) f (n_,(rows_,(out,((mput .str (.int .i64) [] r1 (IntKind.wrap .i64 ((mgetI .str .i64 [] r1).1+1))),(s18,(s16,(s17,((IntKind.wrap .i64 (s18+1)),()))))))))) (
 none))) (
 tif ((true&&(true&&true))) (
 c0l (n+1) f (n_,(rows_,(out,((mput .str (.int .i64) seen r1 (IntKind.wrap .i64 ((mgetI .str .i64 seen r1).1+1))),(from_,(s16,(s17,((IntKind.wrap .i64 (s18+1)),()))))))))) (
 none))) (
 tif ((true&&(true&&true))) (
 c0l (n+1) f (n_,(rows_,(out,((mput .str (.int .i64) seen r1 (IntKind.wrap .i64 ((mgetI .str .i64 seen r1).1+1))),(from_,(s16,(s17,((IntKind.wrap .i64 (s18+1)),()))))))))) (
 none))) (
 tif (true) (
 some (.inl (rows_,(out,(from_,()))))) (
 none)):=by kernel_rfl
theorem b1q (n:Nat) (a:(List TRow)) (b:(List TRow)):j0b (n+1) a b =
 tif ((!(decide ((((List.length a):Nat):Int)=(((List.length b):Nat):Int))))) (
 some false) (
 a0a (h0m n a0b (a,(b,((((List.length a):Nat):Int),(0,()))))) fun r0 =>
 b0z (fun y1 =>
 some true) (fun z2 =>
 some z2) r0):=by kernel_rfl
theorem m0b (n f:Nat) (a:(List TRow)) (b:(List TRow)) (s12:Int) (s13:Int):h0m n (f+1) (a,b,s12,s13,()) =
 tif ((decide (s13<s12))) (
 a0a (at? a s13) fun r0 =>
 a0a (at? b s13) fun r1 =>
 a0a (j1z n r0 r1) fun r2 =>
 tif ((!r2)) (
 some (.inr false)) (
 h0m n f (a,(b,(s12,((IntKind.wrap .i64 (s13+1)),())))))) (
 some (.inl ())):=by kernel_rfl
theorem t1e (n:Nat) (rows:(List TRow)):a1g (n+1) rows =
 a0a (i0h n a0b (rows,(0,(rows,((((List.length rows):Nat):Int),(0,())))))) fun r0 =>
 b0z (fun y1 =>
 some y1.1) (fun z2 =>
 some z2) r0:=by kernel_rfl
theorem t0j (n f:Nat) (rows:(List TRow)) (n_:Int) (s9:(List TRow)) (s10:Int) (s11:Int):i0h n (f+1) (rows,n_,s9,s10,s11,()) =
 tif ((decide (s11<s10))) (
 a0a (at? s9 s11) fun r0 =>
 tif (((decide ((0:Int)≤s11))&&(decide (s11≤(((List.length rows):Nat):Int))))) (
 a0a (l0i n a0b (rows,(n_,(r0,(true,(s9,(s10,(s11,((List.drop 0 (List.take (Int.toNat s11) rows)),((((List.length (List.drop 0 (List.take (Int.toNat s11) rows))):Nat):Int),((0:Int),()))))))))))) fun r1 =>
 b0z (fun y2 =>
 tif (y2.2.2.1) (
 i0h n f (y2.1,((IntKind.wrap .i64 (y2.2.1+1)),(y2.2.2.2.1,(y2.2.2.2.2.1,((IntKind.wrap .i64 (y2.2.2.2.2.2.1+1)),())))))) (
 i0h n f (y2.1,(y2.2.1,(y2.2.2.2.1,(y2.2.2.2.2.1,((IntKind.wrap .i64 (y2.2.2.2.2.2.1+1)),()))))))) (fun z3 =>
 some (.inr z3)) r1) (
 none)) (
 some (.inl (n_,()))):=by kernel_rfl
theorem t0i (n f:Nat) (rows:(List TRow)) (n_:Int) (x:TRow) (fresh:Bool) (s9:(List TRow)) (s10:Int) (s11:Int) (s18:(List TRow)) (s19:Int) (s20:Int):l0i n (f+1) (rows,n_,x,fresh,s9,s10,s11,s18,s19,s20,()) =
 tif ((decide (s20<s19))) (
 a0a (at? s18 s20) fun r0 =>
 tif (fresh) (
 a0a (a1c n x.1 r0.1) fun r1 =>
 l0i n f (rows,(n_,(x,((!r1),(s9,(s10,(s11,(s18,(s19,((IntKind.wrap .i64 (s20+1)),()))))))))))) (
 l0i n f (rows,(n_,(x,(false,(s9,(s10,(s11,(s18,(s19,((IntKind.wrap .i64 (s20+1)),())))))))))))) (
 some (.inl (rows,(n_,(fresh,(s9,(s10,(s11,())))))))):=by kernel_rfl
theorem p1h (n:Nat) (s:a0z):j0i (n+1) s =
 a0a (u0f n s) fun r0 =>
 a0a (m0h n a0b (s,(r0.2,((r0.1::[]),(0,()))))) fun r1 =>
 b0z (fun y2 =>
 tif ((!(decide (y2.1=0)))) (
 some ([],y2.1)) (
 some (y2.2.1,0))) (fun z3 =>
 some z3) r1:=by kernel_rfl
theorem l0n (n f:Nat) (s_:a0z) (why:Int) (out:(List (List UInt8))) (i:Int):m0h n (f+1) (s_,why,out,i,()) =
 tif ((decide (why=0))) (
 tif ((decide (i<(((List.length s_.2.2.2):Nat):Int)))) (
 a0a (at? s_.2.2.2 i) fun r0 =>
 a0a (u0g n s_.1 r0) fun r1 =>
 tif ((decide ((((List.length out)+(List.length r1.1))*16)≤140737488355328))) (
 m0h n f (s_,(r1.2,((out++r1.1),((IntKind.wrap .i64 (i+1)),()))))) (
 none)) (
 some (.inl (why,(out,()))))) (
 some (.inl (why,(out,())))):=by kernel_rfl
theorem w0t (n:Nat) (s:a0z) (rows:(List TRow)):i0q (n+1) s rows =
 tif (((decide ((0:Int)≤(((List.length rows):Nat):Int)))&&((decide ((((List.length rows):Nat):Int)≤(((List.length rows):Nat):Int)))&&(decide (((((List.length rows):Nat):Int)*8)≤140737488355328))))) (
 a0a (c0n n a0b (s,(((0,((0,(0,0)),((0,(0,0)),(0,0)))),(0,(0,[]))),((List.replicate (Int.toNat (((List.length rows):Nat):Int)) (0:Int)),(rows,((((List.length rows):Nat):Int),(0,()))))))) fun r0 =>
 b0z (fun y1 =>
 some (y1.1,y1.2.2.1)) (fun z2 =>
 some z2) r0) (
 none):=by kernel_rfl
theorem c0u (n f:Nat) (s_:a0z) (s4:a0z) (out:(List Int)) (s14:(List TRow)) (s15:Int) (s16:Int):c0n n (f+1) (s_,s4,out,s14,s15,s16,()) =
 tif ((decide (s16<s15))) (
 a0a (at? s14 s16) fun r0 =>
 a0a (k0w n s_ r0.1 r0.2) fun r1 =>
 a0a (at? out s16) fun r2 =>
 a0a ((out)[(Int.toNat s16)]?) fun r3 =>
 tif ((decide (r1.2=0))) (
 c0n n f (r1.1,(s4,((List.set out (Int.toNat s16) r1.2),(s14,(s15,((IntKind.wrap .i64 (s16+1)),()))))))) (
 c0n n f (s_,(s4,((List.set out (Int.toNat s16) r1.2),(s14,(s15,((IntKind.wrap .i64 (s16+1)),())))))))) (
 some (.inl (s_,(s4,(out,()))))):=by kernel_rfl
theorem l1b (n:Nat) (a:(List (List UInt8))) (b:(List (List UInt8))) (from_:Int):n0z (n+1) a b from_ =
 a0a (g0b n a0b (a,(from_,([],(b,((((List.length b):Nat):Int),(0,()))))))) fun r0 =>
 b0z (fun y1 =>
 some y1.1) (fun z2 =>
 some z2) r0:=by kernel_rfl
theorem q0d (n f:Nat) (a:(List (List UInt8))) (from_:Int) (out:(List (Int×List UInt8))) (s10:(List (List UInt8))) (s11:Int) (s12:Int):g0b n (f+1) (a,from_,out,s10,s11,s12,()) =
 tif ((decide (s12<s11))) (
 a0a (at? s10 s12) fun r0 =>
 tif ((decide ((((List.length a):Nat):Int)≤s12))) (
 tif ((decide ((((List.length out)+1)*24)≤140737488355328))) (
 g0b n f (a,(from_,((out++(((IntKind.wrap .i64 (from_+s12)),r0)::[])),(s10,(s11,((IntKind.wrap .i64 (s12+1)),()))))))) (
 none)) (
 a0a (at? a s12) fun r1 =>
 tif ((!(r1==r0))) (
 tif ((decide ((((List.length out)+1)*24)≤140737488355328))) (
 g0b n f (a,(from_,((out++(((IntKind.wrap .i64 (from_+s12)),r0)::[])),(s10,(s11,((IntKind.wrap .i64 (s12+1)),()))))))) (
 none)) (
 g0b n f (a,(from_,(out,(s10,(s11,((IntKind.wrap .i64 (s12+1)),()))))))))) (
 some (.inl (out,()))):=by kernel_rfl
theorem o1z (n:Nat) (s:b0x):w0g (n+1) s =
 a0a (l0j n s.1) fun r0 =>
 tif ((decide (r0=0))) (
 some (0:Int)) (
 tif ((decide ((60:Int)<(((List.length s.2.2.1.2.2):Nat):Int)))) (
 some (0:Int)) (
 a0a (c1g n s.2.2.2.1) fun r1 =>
 some r1)):=by kernel_rfl
theorem z0d (n:Nat) (l:(List (List UInt8×List UInt8))):l0j (n+1) l =
 a0a (f0k n a0b (l,((((List.length l):Nat):Int),(0,())))) fun r0 =>
 b0z (fun y1 =>
 some (1:Int)) (fun z2 =>
 some z2) r0:=by kernel_rfl
theorem h0p (n f:Nat) (s5:(List (List UInt8×List UInt8))) (s6:Int) (s7:Int):f0k n (f+1) (s5,s6,s7,()) =
 tif ((decide (s7<s6))) (
 a0a (at? s5 s7) fun r0 =>
 tif ((decide (s7=40))) (
 some (.inr (0:Int))) (
 tif ((decide ((1000:Int)<(((List.length r0.1):Nat):Int)))) (
 some (.inr (0:Int))) (
 tif ((decide ((1000:Int)<(((List.length r0.2):Nat):Int)))) (
 some (.inr (0:Int))) (
 f0k n f (s5,(s6,((IntKind.wrap .i64 (s7+1)),()))))))) (
 some (.inl ())):=by kernel_rfl
theorem r1j (n:Nat) (s:a0z):r0v (n+1) s =
 a0a (d0e n s.1) fun r0 =>
 tif ((!(decide (r0=0)))) (
 some (((0,((0,(0,0)),((0,(0,0)),(0,0)))),(0,(0,[]))),2)) (
 tif ((!(decide ((((List.length s.2.2.2):Nat):Int)=s.1.2.2.2.1)))) (
 some (((0,((0,(0,0)),((0,(0,0)),(0,0)))),(0,(0,[]))),2)) (
 some (s,0))):=by kernel_rfl
theorem x0c (n:Nat) (v:a0z):m0n (n+1) v =
 a0a (v0a n v.2.1) fun r0 =>
 tif (r0) (
 tif ((decide (v.2.2.1=((-1):Int)))) (
 some (decide (v.2.2.1≤v.2.1))) (
 a0a (v0a n v.2.2.1) fun r1 =>
 tif (r1) (
 some (decide (v.2.2.1≤v.2.1))) (
 some false))) (
 some false):=by kernel_rfl
theorem w0z (n:Nat) (v:a0z) (is:((Int×Unit)→Option Bool)):d0x (n+1) v is =
 a0a (c0i n a0b (is,((((List.length v.2.2.2):Nat):Int),(0,())))) fun r0 =>
 b0z (fun y1 =>
 some ((-1):Int)) (fun z2 =>
 some z2) r0:=by kernel_rfl
theorem j0u (n f:Nat) (is:((Int×Unit)→Option Bool)) (s9:Int) (s10:Int):c0i n (f+1) (is,s9,s10,()) =
 tif ((decide (s10<s9))) (
 a0a (is (s10,())) fun r0 =>
 tif (r0) (
 some (.inr s10)) (
 c0i n f (is,(s9,((IntKind.wrap .i64 (s10+1)),()))))) (
 some (.inl ())):=by kernel_rfl
theorem d1p (n:Nat) (i:Int) (p1:a0z):e0p (n+1) i p1 =
 a0a (m0m n p1 i) fun r0 =>
 some (!r0):=by kernel_rfl
theorem w0y (n:Nat) (v:a0z) (i:Int):m0m (n+1) v i =
 a0a (at? v.2.2.2 i) fun r0 =>
 a0a (v0b n r0) fun r1 =>
 tif (r1) (
 some true) (
 a0a (l0x n v.1 r0) fun r2 =>
 tif ((decide (r2=0))) (
 tif ((decide ((0:Int)≤r0.2.1))) (
 a0a (k0b n v) fun r3 =>
 tif ((decide (r0.2.1<(IntKind.wrap .i64 (r3+v.1.2.1.1))))) (
 a0a (o0s n v i) fun r4 =>
 some (!r4)) (
 some false)) (
 some false)) (
 some false)):=by kernel_rfl
theorem w0q (n:Nat) (c:b0t):d0e (n+1) c =
 a0a (f0n n c.1 (1:Int) (4096:Int)) fun r0 =>
 tif (r0) (
 a0a (f0n n c.2.2.2.1 (1:Int) (65536:Int)) fun r1 =>
 tif (r1) (
 a0a (f0n n c.2.2.2.2 (1:Int) (8192:Int)) fun r2 =>
 tif (r2) (
 a0a (h0q n c.2.1.1 (1:Int) (1099511627776:Int)) fun r3 =>
 tif (r3) (
 a0a (f0n n c.2.2.1.1 (1:Int) (4096:Int)) fun r4 =>
 tif (r4) (
 a0a (h0q n c.2.1.2.1 (1:Int) (1099511627776:Int)) fun r5 =>
 tif (r5) (
 a0a (f0n n c.2.2.1.2.1 (1:Int) (4096:Int)) fun r6 =>
 tif (r6) (
 a0a (h0q n c.2.1.2.2 (1:Int) (1099511627776:Int)) fun r7 =>
 tif (r7) (
 a0a (f0n n c.2.2.1.2.2 (1:Int) (4096:Int)) fun r8 =>
 tif (r8) (
 tif ((decide (c.2.1.1=0))) (
 none) (
 tif ((decide ((Int.tmod c.2.1.2.1 c.2.1.1)=0))) (
 tif ((decide (c.2.1.1=0))) (
 none) (
 tif ((decide ((IntKind.wrap .i64 (Int.tdiv c.2.1.2.1 c.2.1.1))≤c.2.2.1.1))) (
 tif ((decide (c.2.1.2.1=0))) (
 none) (
 tif ((decide ((Int.tmod c.2.1.2.2 c.2.1.2.1)=0))) (
 tif ((decide (c.2.1.2.1=0))) (
 none) (
 tif ((decide ((IntKind.wrap .i64 (Int.tdiv c.2.1.2.2 c.2.1.2.1))≤c.2.2.1.2.1))) (
 tif ((!(decide ((IntKind.wrap .i64 (Int.tdiv c.2.1.2.2 c.2.1.2.1))≤c.2.2.1.2.1)))) (
 some (2:Int)) (
 a0a (i0m n c) fun r9 =>
 tif ((decide (c.2.2.2.2≤r9))) (
 some (2:Int)) (
 some (0:Int)))) (
 tif ((!(decide ((IntKind.wrap .i64 (Int.tdiv c.2.1.2.2 c.2.1.2.1))≤c.2.2.1.2.1)))) (
 some (2:Int)) (
 a0a (i0m n c) fun r10 =>
 tif ((decide (c.2.2.2.2≤r10))) (
 some (2:Int)) (
 some (0:Int)))))) (
 some (2:Int)))) (
 tif ((!(decide ((IntKind.wrap .i64 (Int.tdiv c.2.1.2.1 c.2.1.1))≤c.2.2.1.1)))) (
 some (2:Int)) (
 a0a (i0m n c) fun r11 =>
 tif ((decide (c.2.2.2.2≤r11))) (
 some (2:Int)) (
 some (0:Int)))))) (
 some (2:Int)))) (
 tif ((!r8)) (
 some (2:Int)) (
 a0a (i0m n c) fun r12 =>
 tif ((decide (c.2.2.2.2≤r12))) (
 some (2:Int)) (
 some (0:Int))))) (
 some (2:Int))) (
 some (2:Int))) (
 some (2:Int))) (
 some (2:Int))) (
 some (2:Int))) (
 some (2:Int))) (
 some (2:Int))) (
 some (2:Int)):=by kernel_rfl
theorem m1f (n:Nat) (c:b0t):s0n (n+1) c =
 a0a (d0e n c) fun r0 =>
 tif ((!(decide (r0=0)))) (
 some (0:Int)) (
 a0a (i0m n c) fun r1 =>
 some r1):=by kernel_rfl
theorem b1h (n:Nat) (s:(List TRow)):l0v (n+1) s =
 tif ((decide ((List.length s)=0))) (
 both (
 some []) (
 tif ((decide (((0+(List.length s))*56)≤140737488355328))) (
 some ([]++s)) (
 none))) (
 tif ((decide (((0+(List.length s))*56)≤140737488355328))) (
 some ([]++s)) (
 none)):=by kernel_rfl
theorem q1l (n:Nat) (l:(List (List UInt8×List UInt8))):d1b (n+1) l =
 a0a (j0m n a0b ([],(l,((((List.length l):Nat):Int),(0,()))))) fun r0 =>
 b0z (fun y1 =>
 a0a (b0o n y1.1) fun r2 =>
 some r2.1) (fun z3 =>
 some z3) r0:=by kernel_rfl
theorem r0p (n f:Nat) (b:List UInt8) (s8:(List (List UInt8×List UInt8))) (s9:Int) (s10:Int):j0m n (f+1) (b,s8,s9,s10,()) =
 tif ((decide (s10<s9))) (
 a0a (at? s8 s10) fun r0 =>
 a0a (f0o n a0b (b,(s8,(s9,(s10,(r0,(0,()))))))) fun r1 =>
 b0z (fun y2 =>
 j0m n f (y2.1,(y2.2.1,(y2.2.2.1,((IntKind.wrap .i64 (y2.2.2.2.1+1)),()))))) (fun z3 =>
 some (.inr z3)) r1) (
 some (.inl (b,()))):=by kernel_rfl
theorem l0s (n f:Nat) (b:List UInt8) (s8:(List (List UInt8×List UInt8))) (s9:Int) (s10:Int) (s18:(List UInt8×List UInt8)) (s19:Int):f0o n (f+1) (b,s8,s9,s10,s18,s19,()) =
 tif ((decide (s19<2))) (
 tif ((decide (s19=0))) (
 a0a (strconv_Itoa n (((List.length s18.1):Nat):Int)) fun r0 =>
 a0a (a0i n b r0) fun r1 =>
 a0a (b0m n r1.2.2 (58:Int)) fun r2 =>
 a0a (a0i n r2.2 s18.1) fun r3 =>
 f0o n f (r3.2.2,(s8,(s9,(s10,(s18,((IntKind.wrap .i64 (s19+1)),()))))))) (
 tif ((decide (s19=1))) (
 a0a (strconv_Itoa n (((List.length s18.2):Nat):Int)) fun r4 =>
 a0a (a0i n b r4) fun r5 =>
 a0a (b0m n r5.2.2 (58:Int)) fun r6 =>
 a0a (a0i n r6.2 s18.2) fun r7 =>
 f0o n f (r7.2.2,(s8,(s9,(s10,(s18,((IntKind.wrap .i64 (s19+1)),()))))))) (
 none))) (
 some (.inl (b,(s8,(s9,(s10,())))))):=by kernel_rfl
theorem s1l (n:Nat) (a:(List (List UInt8×List UInt8))) (b:(List (List UInt8×List UInt8))):a1c (n+1) a b =
 tif ((!(decide ((((List.length a):Nat):Int)=(((List.length b):Nat):Int))))) (
 some false) (
 a0a (l0f n a0b (a,(b,((((List.length a):Nat):Int),(0,()))))) fun r0 =>
 b0z (fun y1 =>
 some true) (fun z2 =>
 some z2) r0):=by kernel_rfl
theorem i0t (n f:Nat) (a:(List (List UInt8×List UInt8))) (b:(List (List UInt8×List UInt8))) (s12:Int) (s13:Int):l0f n (f+1) (a,b,s12,s13,()) =
 tif ((decide (s13<s12))) (
 a0a (at? a s13) fun r0 =>
 a0a (at? b s13) fun r1 =>
 tif ((!((r0.1==r1.1)&&(r0.2==r1.2)))) (
 some (.inr false)) (
 l0f n f (a,(b,(s12,((IntKind.wrap .i64 (s13+1)),())))))) (
 some (.inl ())):=by kernel_rfl
theorem e1x (n:Nat) (s:a0z):u0f (n+1) s =
 a0a (n0g n s) fun r0 =>
 tif ((!(decide (r0=0)))) (
 some ([],r0)) (
 a0a (y0g n s.1) fun r1 =>
 tif ((decide ((8+(List.length r1))≤9223372036854775807))) (
 a0a (d0o n [] (((112:UInt8)::((108:UInt8)::((105:UInt8)::((109:UInt8)::((115:UInt8)::((111:UInt8)::((108:UInt8)::((108:UInt8)::[]))))))))++r1)) fun r2 =>
 a0a (l0l n r2 (s.2.1::((IntKind.wrap .i64 (s.2.2.1+1))::[]))) fun r3 =>
 a0a (c0f n r3) fun r4 =>
 a0a (f0l n r4.1 (512:Int)) fun r5 =>
 some (r5,0)) (
 none)):=by kernel_rfl
theorem e1y (n:Nat) (c:b0t) (x:b0x):u0g (n+1) c x =
 a0a (d0e n c) fun r0 =>
 tif ((!(decide (r0=0)))) (
 some ([],2)) (
 a0a (u0e n x) fun r1 =>
 tif (r1) (
 a0a (f0l n [] (512:Int)) fun r2 =>
 a0a (s0n n c) fun r3 =>
 a0a (j0o n (r2::[]) r3) fun r4 =>
 some (r4,0)) (
 a0a (l0x n c x) fun r5 =>
 tif ((!(decide (r5=0)))) (
 some ([],2)) (
 a0a (u0d n x) fun r6 =>
 tif ((!(decide (r6.2=0)))) (
 some ([],r6.2)) (
 a0a (u0c n x.2.2.1 c.1) fun r7 =>
 a0a (l0m n (r6.1::[]) r7 (16:Int) (fun y8=>p0m n y8.1)) fun r9 =>
 a0a (e0h n a0b (r9,(x.2.2.2.1,(0,())))) fun r10 =>
 b0z (fun y11 =>
 some (y11.1,0)) (fun z12 =>
 some z12) r10)))):=by kernel_rfl
theorem f0c (n f:Nat) (out:(List (List UInt8))) (s45:((List a0c)×((List a0c)×(List a0c)))) (s46:Int):e0h n (f+1) (out,s45,s46,()) =
 tif ((decide (s46<3))) (
 tif ((decide (s46=0))) (
 a0a (g0m n out s45.1 (4:Int) (fun y0=>i0j n y0.1)) fun r1 =>
 e0h n f (r1,(s45,((IntKind.wrap .i64 (s46+1)),())))) (
 tif ((decide (s46=1))) (
 a0a (g0m n out s45.2.1 (4:Int) (fun y2=>i0j n y2.1)) fun r3 =>
 e0h n f (r3,(s45,((IntKind.wrap .i64 (s46+1)),())))) (
 tif ((decide (s46=2))) (
 a0a (g0m n out s45.2.2 (4:Int) (fun y4=>i0j n y4.1)) fun r5 =>
 e0h n f (r5,(s45,((IntKind.wrap .i64 (s46+1)),())))) (
 none)))) (
 some (.inl (out,()))):=by kernel_rfl
theorem m1t (n:Nat) (s:a0z) (l:(List (List UInt8×List UInt8))) (e:a0m):k0w (n+1) s l e =
 a0a (t0w n s l e) fun r0 =>
 tif ((!(decide (r0.2.2=0)))) (
 some (((0,((0,(0,0)),((0,(0,0)),(0,0)))),(0,(0,[]))),r0.2.2)) (
 a0a (a1p n s r0.1 r0.2.1 l) fun r1 =>
 tif ((!(decide (r1.2=0)))) (
 some (((0,((0,(0,0)),((0,(0,0)),(0,0)))),(0,(0,[]))),r1.2)) (
 a0a (x0j n s.1 r1.1 e) fun r2 =>
 tif ((!(decide (r2.2=0)))) (
 some (((0,((0,(0,0)),((0,(0,0)),(0,0)))),(0,(0,[]))),r2.2)) (
 a0a (l0b n s.2.2.2) fun r3 =>
 a0a (at? r3 r0.1) fun r4 =>
 a0a ((r3)[(Int.toNat r0.1)]?) fun r5 =>
 some ((s.1,(s.2.1,(s.2.2.1,(List.set r3 (Int.toNat r0.1) r2.1)))),0)))):=by kernel_rfl
theorem p1a (n:Nat) (s:((List a0c)×((List a0c)×(List a0c)))):c1g (n+1) s =
 a0a (d0r n a0b (s,(0,()))) fun r0 =>
 b0z (fun y1 =>
 some (1:Int)) (fun z2 =>
 some z2) r0:=by kernel_rfl
theorem h0o (n f:Nat) (s_:((List a0c)×((List a0c)×(List a0c)))) (s4:Int):d0r n (f+1) (s_,s4,()) =
 tif ((decide (s4<3))) (
 tif ((decide (s4=0))) (
 tif ((decide ((40:Int)<(((List.length s_.1):Nat):Int)))) (
 some (.inr (0:Int))) (
 d0r n f (s_,((IntKind.wrap .i64 (s4+1)),())))) (
 tif ((decide (s4=1))) (
 tif ((decide ((40:Int)<(((List.length s_.2.1):Nat):Int)))) (
 some (.inr (0:Int))) (
 d0r n f (s_,((IntKind.wrap .i64 (s4+1)),())))) (
 tif ((decide (s4=2))) (
 tif ((decide ((40:Int)<(((List.length s_.2.2):Nat):Int)))) (
 some (.inr (0:Int))) (
 d0r n f (s_,((IntKind.wrap .i64 (s4+1)),())))) (
 none)))) (
 some (.inl ())):=by kernel_rfl
theorem r1i (n:Nat) (t:Int):v0a (n+1) t =
 tif ((decide ((0:Int)≤t))) (
 some (decide (t<35184372088832))) (
 some false):=by kernel_rfl
theorem n1o (n:Nat) (s:b0x):v0b (n+1) s =
 a0a (f0i n s ([],(0,((0,(0,[])),(([],([],[])),(0,(0,((0,(0,(0,false))),((0,(0,(0,false))),((0,0),(0,(0,0)))))))))))) fun r0 =>
 some r0:=by kernel_rfl
theorem b1m (n:Nat) (c:b0t) (s:b0x):l0x (n+1) c s =
 a0a (o0z n c s) fun r0 =>
 b1z (r0.1) (
 some r0.2) fun r1 =>
 some r0.2:=by kernel_rfl
theorem z0m (n:Nat) (v:a0z):k0b (n+1) v =
 tif ((decide (v.1.2.1.1=0))) (
 none) (
 some (IntKind.wrap .i64 (v.2.1-(Int.tmod v.2.1 v.1.2.1.1)))):=by kernel_rfl
theorem z0l (n:Nat) (v:a0z) (i:Int):o0s (n+1) v i =
 a0a (d0x n v (fun y0=>f0h n y0.1 i v)) fun r1 =>
 tif ((decide (r1<i))) (
 a0a (e0v n v i) fun r2 =>
 some r2) (
 some false):=by kernel_rfl
theorem f1l (n:Nat) (n_:Int) (low:Int) (high:Int):f0n (n+1) n_ low high =
 tif ((decide (low≤n_))) (
 some (decide (n_≤high))) (
 some false):=by kernel_rfl
theorem z0v (n:Nat) (n_:Int) (low:Int) (high:Int):h0q (n+1) n_ low high =
 tif ((decide (low≤n_))) (
 some (decide (n_≤high))) (
 some false):=by kernel_rfl
theorem m1d (n:Nat) (c:b0t):i0m (n+1) c =
 a0a (k0s n c.1 (16:Int)) fun r0 =>
 a0a (k0s n c.2.2.1.1 (4:Int)) fun r1 =>
 a0a (k0s n c.2.2.1.2.1 (4:Int)) fun r2 =>
 a0a (k0s n c.2.2.1.2.2 (4:Int)) fun r3 =>
 some (IntKind.wrap .i64 ((IntKind.wrap .i64 ((IntKind.wrap .i64 ((IntKind.wrap .i64 ((1:Int)+r0))+r1))+r2))+r3)):=by kernel_rfl
theorem b1c (n:Nat) (i:Int):strconv_Itoa (n+1) i =
 a0a (v0d n i) fun r0 =>
 some r0:=by kernel_rfl
theorem u0k (n:Nat) (w:(List Int)) (s:List UInt8):d0o (n+1) w s =
 tif ((decide ((((List.length w)+(List.length (List.map (fun y1=>(((UInt8.toNat y1):Nat):Int)) s)))*1)≤140737488355328))) (
 some (w++(List.map (fun y0=>(((UInt8.toNat y0):Nat):Int)) s))) (
 none):=by kernel_rfl
theorem m1g (n:Nat) (c:b0t):y0g (n+1) c =
 a0a (d0e n c) fun r0 =>
 tif ((!(decide (r0=0)))) (
 some []) (
 a0a (a0o n [] (4:Int) (IntKind.wrap .u64 c.1)) fun r1 =>
 a0a (a0o n r1 (8:Int) (IntKind.wrap .u64 c.2.1.1)) fun r2 =>
 a0a (a0o n r2 (8:Int) (IntKind.wrap .u64 c.2.1.2.1)) fun r3 =>
 a0a (a0o n r3 (8:Int) (IntKind.wrap .u64 c.2.1.2.2)) fun r4 =>
 a0a (a0o n r4 (4:Int) (IntKind.wrap .u64 c.2.2.1.1)) fun r6 =>
 a0a (a0o n r6 (4:Int) (IntKind.wrap .u64 c.2.2.1.2.1)) fun r8 =>
 a0a (a0o n r8 (4:Int) (IntKind.wrap .u64 c.2.2.1.2.2)) fun r10 =>
 a0a (a0o n r10 (4:Int) (IntKind.wrap .u64 c.2.2.2.1)) fun r12 =>
 a0a (a0o n r12 (4:Int) (IntKind.wrap .u64 c.2.2.2.2)) fun r14 =>
 a0a (a0o n r14 (8:Int) (0:Int)) fun r15 =>
 a0a (c0f n r15) fun r16 =>
 some r16.1):=by kernel_rfl
end Go.Proofs.YtjffajodppnejaaGreatDoor
