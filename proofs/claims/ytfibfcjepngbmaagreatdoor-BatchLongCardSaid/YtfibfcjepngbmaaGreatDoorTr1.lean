/- Trees, printed by program. -/
import Derived.Test.YtfibfcjepngbmaaGreatDoorTr0
import Derived.KernelRfl
set_option linter.unusedVariables false
namespace Go.Proofs.YtfibfcjepngbmaaGreatDoor
open Go.Flat
theorem v0m (n:Nat) (rows:(List TRow)) (n_:Int) (c:b0d):r0p (n+1) rows n_ c =
 a0a (t0w n rows) fun r0 =>
 tif ((decide (r0=0))) (
 a0a (p0d n ) fun r1 =>
 some r1) (
 a0a (d0m n rows) fun r2 =>
 a0a (y0y n rows) fun r3 =>
 a0a (e0c n n_ rows) fun r4 =>
 a0a (y0w n n_ rows) fun r5 =>
 tif ((!(decide (r2.1=r3.1)))) (
 some false) (
 tif ((!(decide (r2.2=r3.2)))) (
 some false) (
 a0a (k0c n rows) fun r6 =>
 a0a (y0x n rows) fun r7 =>
 a0a (f0y n r6 r7) fun r8 =>
 tif ((!r8)) (
 some false) (
 tif ((!(decide ((((List.length r4):Nat):Int)=(((List.length r5):Nat):Int))))) (
 some false) (
 a0a (f0g n a0b (c,(r4,(r5,((((List.length r4):Nat):Int),(0,())))))) fun r9 =>
 b0y (fun y10 =>
 a0a (p0d n ) fun r11 =>
 tif (r11) (
 a0a (h0h n y10.1) fun r12 =>
 a0a (g1c n y10.1) fun r13 =>
 some (decide (r12=r13))) (
 some false)) (fun z14 =>
 some z14) r9))))):=by kernel_rfl
theorem i0o (n f:Nat) (c_:b0d) (p:(List (List TRow))) (q:(List (List TRow))) (s58:Int) (s59:Int):f0g n (f+1) (c_,p,q,s58,s59,()) =
 tif ((decide (s59<s58))) (
 a0a (at? p s59) fun r0 =>
 a0a (at? q s59) fun r1 =>
 a0a (f0y n r0 r1) fun r2 =>
 tif ((!r2)) (
 some (.inr false)) (
 f0g n f (c_,(p,(q,(s58,((IntKind.wrap .i64 (s59+1)),()))))))) (
 some (.inl (c_,()))):=by kernel_rfl
theorem x0g (n:Nat) (n_:Int) (t:Int):t0x (n+1) n_ t =
 a0a (p0d n ) fun r0 =>
 tif ((!r0)) (
 some false) (
 tif ((decide (t<0))) (
 some true) (
 tif ((decide ((1099511627776:Int)<t))) (
 some true) (
 a0a (e0g n a0b (t,((Int.tmod (IntKind.wrap .i64 n_) (1100:Int)),([],((Int.tmod (IntKind.wrap .i64 n_) (1100:Int)),(0,())))))) fun r1 =>
 b0y (fun y2 =>
 a0a (d0m n y2.2.1) fun r3 =>
 tif ((decide (r3.1=0))) (
 tif ((decide ((0:Int)<y2.1))) (
 tif (((decide (r3.2=0))==(decide (y2.1≤1024)))) (
 tif ((decide (y2.1=0))) (
 some ((decide (r3.2=6))==true)) (
 some ((decide (r3.2=6))==(decide ((1024:Int)<y2.1))))) (
 some false)) (
 tif (((decide (r3.2=0))==false)) (
 tif ((decide (y2.1=0))) (
 some ((decide (r3.2=6))==true)) (
 some ((decide (r3.2=6))==(decide ((1024:Int)<y2.1))))) (
 some false))) (
 some false)) (fun z4 =>
 some z4) r1))):=by kernel_rfl
theorem j0x (n f:Nat) (t:Int) (k:Int) (rows:(List TRow)) (s21:Int) (s22:Int):e0g n (f+1) (t,k,rows,s21,s22,()) =
 tif ((decide (s22<s21))) (
 tif ((decide ((((List.length rows)+1)*56)≤140737488355328))) (
 e0g n f (t,(k,((rows++((((((97:UInt8)::[]),[])::[]),((IntKind.wrap .i64 (t+s22)),(0,(0,false))))::[])),(s21,((IntKind.wrap .i64 (s22+1)),())))))) (
 none)) (
 some (.inl (k,(rows,())))):=by kernel_rfl
theorem m1a (n:Nat) (rows:(List TRow)):t0w (n+1) rows =
 tif ((decide ((40:Int)<(((List.length rows):Nat):Int)))) (
 some (0:Int)) (
 a0a (h0y n a0b (rows,((((List.length rows):Nat):Int),(0,())))) fun r0 =>
 b0y (fun y1 =>
 some (1:Int)) (fun z2 =>
 some z2) r0):=by kernel_rfl
theorem p0e (n f:Nat) (s8:(List TRow)) (s9:Int) (s10:Int):h0y n (f+1) (s8,s9,s10,()) =
 tif ((decide (s10<s9))) (
 a0a (at? s8 s10) fun r0 =>
 a0a (t0y n r0.1) fun r1 =>
 tif ((decide (r1=0))) (
 some (.inr (0:Int))) (
 h0y n f (s8,(s9,((IntKind.wrap .i64 (s10+1)),()))))) (
 some (.inl ())):=by kernel_rfl
theorem c1l (n:Nat) (rows:(List TRow)):d0m (n+1) rows =
 tif ((decide ((((List.length rows):Nat):Int)<1))) (
 some (0,6)) (
 tif ((decide ((1024:Int)<(((List.length rows):Nat):Int)))) (
 some (0,6)) (
 a0a (f0p n a0b ([],(rows,((((List.length rows):Nat):Int),(0,()))))) fun r0 =>
 b0y (fun y1 =>
 some (0,0)) (fun z2 =>
 some z2) r0)):=by kernel_rfl
theorem m0d (n f:Nat) (last:(List (List UInt8×Int))) (s17:(List TRow)) (s18:Int) (s19:Int):f0p n (f+1) (last,s17,s18,s19,()) =
 tif ((decide (s19<s18))) (
 a0a (at? s17 s19) fun r0 =>
 a0a (a1h n r0 last) fun r1 =>
 tif ((!(decide (r1.1=0)))) (
 some (.inr (s19,r1.1))) (
 f0p n f (r1.2,(s17,(s18,((IntKind.wrap .i64 (s19+1)),())))))) (
 some (.inl ())):=by kernel_rfl
theorem k1v (n:Nat) (rows:(List TRow)):y0y (n+1) rows =
 tif ((decide ((((List.length rows):Nat):Int)=0))) (
 some (0,6)) (
 tif ((decide ((1024:Int)<(((List.length rows):Nat):Int)))) (
 some (0,6)) (
 a0a (k0i n a0b (rows,(rows,((((List.length rows):Nat):Int),(0,()))))) fun r0 =>
 b0y (fun y1 =>
 some (0,0)) (fun z2 =>
 some z2) r0)):=by kernel_rfl
theorem o0r (n f:Nat) (rows:(List TRow)) (s18:(List TRow)) (s19:Int) (s20:Int):k0i n (f+1) (rows,s18,s19,s20,()) =
 tif ((decide (s20<s19))) (
 a0a (at? s18 s20) fun r0 =>
 a0a (z0c n r0.1) fun r1 =>
 tif ((!(decide (r1=0)))) (
 some (.inr (s20,r1))) (
 a0a (z0b n r0.2) fun r2 =>
 tif ((!(decide (r2=0)))) (
 some (.inr (s20,r2))) (
 tif (((decide ((0:Int)≤s20))&&(decide (s20≤(((List.length rows):Nat):Int))))) (
 a0a (g0h n a0b (rows,(s20,(r0,(s18,(s19,(s20,((List.drop 0 (List.take (Int.toNat s20) rows)),((((List.length (List.drop 0 (List.take (Int.toNat s20) rows))):Nat):Int),((0:Int),())))))))))) fun r3 =>
 b0y (fun y4 =>
 k0i n f (y4.1,(y4.2.1,(y4.2.2.1,((IntKind.wrap .i64 (y4.2.2.2.1+1)),()))))) (fun z5 =>
 some (.inr z5)) r3) (
 none)))) (
 some (.inl ())):=by kernel_rfl
theorem o0b (n f:Nat) (rows:(List TRow)) (i:Int) (x:TRow) (s18:(List TRow)) (s19:Int) (s20:Int) (s41:(List TRow)) (s42:Int) (s43:Int):g0h n (f+1) (rows,i,x,s18,s19,s20,s41,s42,s43,()) =
 tif ((decide (s43<s42))) (
 a0a (at? s41 s43) fun r0 =>
 a0a (q0f n x.1 r0.1) fun r1 =>
 tif (r1) (
 tif ((decide (x.2.1≤r0.2.1))) (
 some (.inr (i,9))) (
 g0h n f (rows,(i,(x,(s18,(s19,(s20,(s41,(s42,((IntKind.wrap .i64 (s43+1)),()))))))))))) (
 g0h n f (rows,(i,(x,(s18,(s19,(s20,(s41,(s42,((IntKind.wrap .i64 (s43+1)),()))))))))))) (
 some (.inl (rows,(s18,(s19,(s20,())))))):=by kernel_rfl
theorem k1t (n:Nat) (n_:Int) (rows:(List TRow)):y0w (n+1) n_ rows =
 tif ((decide (n_<1))) (
 some []) (
 a0a (f0w n a0b (n_,(rows,([],(0,((((List.length rows):Nat):Int),(0,()))))))) fun r0 =>
 b0y (fun y1 =>
 tif ((decide (y1.2.2.1<(((List.length y1.1):Nat):Int)))) (
 tif ((decide ((0:Int)≤y1.2.2.1))) (
 tif ((decide ((Int.toNat y1.2.2.1)≤(List.length y1.1)))) (
 tif ((decide ((((List.length y1.2.1)+1)*24)≤140737488355328))) (
 some (y1.2.1++((List.drop (Int.toNat y1.2.2.1) (List.take (List.length y1.1) y1.1))::[]))) (
 none)) (
 none)) (
 none)) (
 some y1.2.1)) (fun z2 =>
 some z2) r0):=by kernel_rfl
theorem o0o (n f:Nat) (n_:Int) (rows:(List TRow)) (out:(List (List TRow))) (from_:Int) (s11:Int) (s12:Int):f0w n (f+1) (n_,rows,out,from_,s11,s12,()) =
 tif ((decide (s12<s11))) (
 tif ((decide ((0:Int)≤from_))) (
 tif (((decide ((((Int.toNat from_):Nat):Int)≤(IntKind.wrap .i64 (s12+1))))&&(decide ((IntKind.wrap .i64 (s12+1))≤(((List.length rows):Nat):Int))))) (
 a0a (g1d n (List.drop (Int.toNat from_) (List.take (Int.toNat (IntKind.wrap .i64 (s12+1))) rows))) fun r0 =>
 tif ((decide (n_<r0))) (
 tif ((decide ((0:Int)≤from_))) (
 tif (((decide ((((Int.toNat from_):Nat):Int)≤s12))&&(decide (s12≤(((List.length rows):Nat):Int))))) (
 tif ((decide ((((List.length out)+1)*24)≤140737488355328))) (
 f0w n f (n_,(rows,((out++((List.drop (Int.toNat from_) (List.take (Int.toNat s12) rows))::[])),(s12,(s11,((IntKind.wrap .i64 (s12+1)),()))))))) (
 none)) (
 none)) (
 none)) (
 f0w n f (n_,(rows,(out,(from_,(s11,((IntKind.wrap .i64 (s12+1)),())))))))) (
 none)) (
 none)) (
 some (.inl (rows,(out,(from_,()))))):=by kernel_rfl
theorem y0z (n:Nat) (a:(List TRow)) (b:(List TRow)):f0y (n+1) a b =
 tif ((!(decide ((((List.length a):Nat):Int)=(((List.length b):Nat):Int))))) (
 some false) (
 a0a (g0i n a0b (a,(b,((((List.length a):Nat):Int),(0,()))))) fun r0 =>
 b0y (fun y1 =>
 some true) (fun z2 =>
 some z2) r0):=by kernel_rfl
theorem k0j (n f:Nat) (a:(List TRow)) (b:(List TRow)) (s12:Int) (s13:Int):g0i n (f+1) (a,b,s12,s13,()) =
 tif ((decide (s13<s12))) (
 a0a (at? a s13) fun r0 =>
 a0a (at? b s13) fun r1 =>
 a0a (g1e n r0 r1) fun r2 =>
 tif ((!r2)) (
 some (.inr false)) (
 g0i n f (a,(b,(s12,((IntKind.wrap .i64 (s13+1)),())))))) (
 some (.inl ())):=by kernel_rfl
theorem k1u (n:Nat) (rows:(List TRow)):y0x (n+1) rows =
 a0a (f0x n a0b (rows,([],(rows,((((List.length rows):Nat):Int),(0,())))))) fun r0 =>
 b0y (fun y1 =>
 some y1.1) (fun z2 =>
 some z2) r0:=by kernel_rfl
theorem o0q (n f:Nat) (rows:(List TRow)) (out:(List TRow)) (s8:(List TRow)) (s9:Int) (s10:Int):f0x n (f+1) (rows,out,s8,s9,s10,()) =
 tif ((decide (s10<s9))) (
 a0a (at? s8 s10) fun r0 =>
 tif (((decide ((0:Int)≤s10))&&(decide (s10≤(((List.length rows):Nat):Int))))) (
 a0a (g1a n (List.drop 0 (List.take (Int.toNat s10) rows)) r0.1) fun r1 =>
 tif (r1) (
 f0x n f (rows,(out,(s8,(s9,((IntKind.wrap .i64 (s10+1)),())))))) (
 tif ((decide ((0:Int)≤s10))) (
 tif ((decide ((Int.toNat s10)≤(List.length rows)))) (
 a0a (h0w n a0b (rows,(out,(r0,(s8,(s9,(s10,((List.drop (Int.toNat s10) (List.take (List.length rows) rows)),((((List.length (List.drop (Int.toNat s10) (List.take (List.length rows) rows))):Nat):Int),((0:Int),())))))))))) fun r2 =>
 b0y (fun y3 =>
 f0x n f (y3.1,(y3.2.1,(y3.2.2.1,(y3.2.2.2.1,((IntKind.wrap .i64 (y3.2.2.2.2.1+1)),())))))) (fun z4 =>
 some (.inr z4)) r2) (
 none)) (
 none))) (
 none)) (
 some (.inl (out,()))):=by kernel_rfl
theorem o0p (n f:Nat) (rows:(List TRow)) (out:(List TRow)) (x:TRow) (s8:(List TRow)) (s9:Int) (s10:Int) (s23:(List TRow)) (s24:Int) (s25:Int):h0w n (f+1) (rows,out,x,s8,s9,s10,s23,s24,s25,()) =
 tif ((decide (s25<s24))) (
 a0a (at? s23 s25) fun r0 =>
 a0a (q0f n x.1 r0.1) fun r1 =>
 tif (r1) (
 tif ((decide ((((List.length out)+1)*56)≤140737488355328))) (
 h0w n f (rows,((out++(r0::[])),(x,(s8,(s9,(s10,(s23,(s24,((IntKind.wrap .i64 (s25+1)),())))))))))) (
 none)) (
 h0w n f (rows,(out,(x,(s8,(s9,(s10,(s23,(s24,((IntKind.wrap .i64 (s25+1)),()))))))))))) (
 some (.inl (rows,(out,(s8,(s9,(s10,()))))))):=by kernel_rfl
theorem j1h (n:Nat) (c:b0d):h0h (n+1) c =
 a0a (d0s n c) fun r0 =>
 tif ((!(decide (r0=0)))) (
 some (0:Int)) (
 a0a (v0t n c) fun r1 =>
 tif ((decide (r1=0))) (
 none) (
 some (IntKind.wrap .i64 (Int.tdiv c.2.2.2.2 r1)))):=by kernel_rfl
theorem p1c (n:Nat) (c:b0d):g1c (n+1) c =
 a0a (l0n n c) fun r0 =>
 tif ((!(decide (r0=0)))) (
 some (0:Int)) (
 a0a (z0a n c) fun r1 =>
 tif ((decide (r1=0))) (
 none) (
 some (IntKind.wrap .i64 (Int.tdiv c.2.2.2.2 r1)))):=by kernel_rfl
theorem u0l (n:Nat) (s:b0g) (rows:(List TRow)):q0t (n+1) s rows =
 tif (((decide ((0:Int)≤(((List.length rows):Nat):Int)))&&((decide ((((List.length rows):Nat):Int)≤(((List.length rows):Nat):Int)))&&(decide (((((List.length rows):Nat):Int)*8)≤140737488355328))))) (
 a0a (c0g n a0b (s,(((0,((0,(0,0)),((0,(0,0)),(0,0)))),(0,(0,[]))),((List.replicate (Int.toNat (((List.length rows):Nat):Int)) (0:Int)),(rows,((((List.length rows):Nat):Int),(0,()))))))) fun r0 =>
 b0y (fun y1 =>
 some (y1.1,y1.2.2.1)) (fun z2 =>
 some z2) r0) (
 none):=by kernel_rfl
theorem c0l (n f:Nat) (s_:b0g) (s4:b0g) (out:(List Int)) (s14:(List TRow)) (s15:Int) (s16:Int):c0g n (f+1) (s_,s4,out,s14,s15,s16,()) =
 tif ((decide (s16<s15))) (
 a0a (at? s14 s16) fun r0 =>
 a0a (j0l n s_ r0.1 r0.2) fun r1 =>
 a0a (at? out s16) fun r2 =>
 a0a ((out)[(Int.toNat s16)]?) fun r3 =>
 tif ((decide (r1.2=0))) (
 c0g n f (r1.1,(s4,((List.set out (Int.toNat s16) r1.2),(s14,(s15,((IntKind.wrap .i64 (s16+1)),()))))))) (
 c0g n f (s_,(s4,((List.set out (Int.toNat s16) r1.2),(s14,(s15,((IntKind.wrap .i64 (s16+1)),())))))))) (
 some (.inl (s_,(s4,(out,()))))):=by kernel_rfl
theorem k1d (n:Nat) (s:b0g):t0a (n+1) s =
 a0a (p0w n s) fun r0 =>
 tif ((!(decide (r0.2=0)))) (
 some (2:Int)) (
 a0a (k0u n r0.1) fun r1 =>
 tif ((!r1)) (
 some (2:Int)) (
 a0a (d0i n r0.1 (fun y2=>d0z n y2.1 r0.1)) fun r3 =>
 tif ((decide ((0:Int)≤r3))) (
 some (2:Int)) (
 some (0:Int)))):=by kernel_rfl
theorem m1b (n:Nat) (l:(List (List UInt8×List UInt8))):t0y (n+1) l =
 a0a (i0a n a0b (l,((((List.length l):Nat):Int),(0,())))) fun r0 =>
 b0y (fun y1 =>
 some (1:Int)) (fun z2 =>
 some z2) r0:=by kernel_rfl
theorem p0f (n f:Nat) (s5:(List (List UInt8×List UInt8))) (s6:Int) (s7:Int):i0a n (f+1) (s5,s6,s7,()) =
 tif ((decide (s7<s6))) (
 a0a (at? s5 s7) fun r0 =>
 tif ((decide (s7=40))) (
 some (.inr (0:Int))) (
 tif ((decide ((1000:Int)<(((List.length r0.1):Nat):Int)))) (
 some (.inr (0:Int))) (
 tif ((decide ((1000:Int)<(((List.length r0.2):Nat):Int)))) (
 some (.inr (0:Int))) (
 i0a n f (s5,(s6,((IntKind.wrap .i64 (s7+1)),()))))))) (
 some (.inl ())):=by kernel_rfl
theorem n1i (n:Nat) (x:TRow) (last:(List (List UInt8×Int))):a1h (n+1) x last =
 a0a (h0a n x.1) fun r0 =>
 tif ((!(decide (r0=0)))) (
 some (r0,last)) (
 a0a (c0z n x.2) fun r1 =>
 tif ((!(decide (r1=0)))) (
 some (r1,last)) (
 a0a (p0o n x.1) fun r2 =>
 tif ((mgetI .str .i64 last r2).2) (
 tif ((decide (x.2.1≤(mgetI .str .i64 last r2).1))) (
 some (9,last)) (
 some (0,(mput .str (.int .i64) last r2 x.2.1)))) (
 some (0,(mput .str (.int .i64) last r2 x.2.1))))):=by kernel_rfl
theorem l1c (n:Nat) (l:(List (List UInt8×List UInt8))):z0c (n+1) l =
 tif ((decide ((((List.length l):Nat):Int)<1))) (
 some (8:Int)) (
 tif ((decide ((16:Int)<(((List.length l):Nat):Int)))) (
 some (8:Int)) (
 a0a (f0z n a0b (l,(0,(l,((((List.length l):Nat):Int),(0,())))))) fun r0 =>
 b0y (fun y1 =>
 tif ((decide ((256:Int)<y1.1))) (
 some (8:Int)) (
 some (0:Int))) (fun z2 =>
 some z2) r0)):=by kernel_rfl
theorem o0t (n f:Nat) (l:(List (List UInt8×List UInt8))) (all:Int) (s14:(List (List UInt8×List UInt8))) (s15:Int) (s16:Int):f0z n (f+1) (l,all,s14,s15,s16,()) =
 tif ((decide (s16<s15))) (
 a0a (at? s14 s16) fun r0 =>
 a0a (g1g n r0.1) fun r1 =>
 tif ((!r1)) (
 some (.inr (8:Int))) (
 tif ((decide ((128:Int)<(((List.length r0.2):Nat):Int)))) (
 some (.inr (8:Int))) (
 tif ((decide ((0:Int)<s16))) (
 a0a (at? l (IntKind.wrap .i64 (s16-1))) fun r2 =>
 tif ((!(Go.Op.bytesLess r2.1 r0.1))) (
 some (.inr (8:Int))) (
 f0z n f (l,((IntKind.wrap .i64 (all+(IntKind.wrap .i64 ((((List.length r0.1):Nat):Int)+(((List.length r0.2):Nat):Int))))),(s14,(s15,((IntKind.wrap .i64 (s16+1)),()))))))) (
 f0z n f (l,((IntKind.wrap .i64 (all+(IntKind.wrap .i64 ((((List.length r0.1):Nat):Int)+(((List.length r0.2):Nat):Int))))),(s14,(s15,((IntKind.wrap .i64 (s16+1)),()))))))))) (
 some (.inl (all,()))):=by kernel_rfl
theorem l1a (n:Nat) (e:a0t):z0b (n+1) e =
 tif ((decide (e.1<0))) (
 some (2:Int)) (
 tif ((decide ((35184372088832:Int)≤e.1))) (
 some (2:Int)) (
 tif ((decide (e.2.2.1<0))) (
 some (2:Int)) (
 tif ((decide (e.1<e.2.2.1))) (
 some (2:Int)) (
 tif (e.2.2.2) (
 tif ((!(decide (e.2.1=0)))) (
 some (2:Int)) (
 tif ((!(decide (e.2.2.1=0)))) (
 some (2:Int)) (
 some (0:Int)))) (
 some (0:Int)))))):=by kernel_rfl
theorem p1i (n:Nat) (a:(List (List UInt8×List UInt8))) (b:(List (List UInt8×List UInt8))):q0f (n+1) a b =
 tif ((!(decide ((((List.length a):Nat):Int)=(((List.length b):Nat):Int))))) (
 some false) (
 a0a (n0e n a0b (a,(b,((((List.length a):Nat):Int),(0,()))))) fun r0 =>
 b0y (fun y1 =>
 some true) (fun z2 =>
 some z2) r0):=by kernel_rfl
theorem r0o (n f:Nat) (a:(List (List UInt8×List UInt8))) (b:(List (List UInt8×List UInt8))) (s12:Int) (s13:Int):n0e n (f+1) (a,b,s12,s13,()) =
 tif ((decide (s13<s12))) (
 a0a (at? a s13) fun r0 =>
 a0a (at? b s13) fun r1 =>
 tif ((!((r0.1==r1.1)&&(r0.2==r1.2)))) (
 some (.inr false)) (
 n0e n f (a,(b,(s12,((IntKind.wrap .i64 (s13+1)),())))))) (
 some (.inl ())):=by kernel_rfl
theorem y0p (n:Nat) (s:(List TRow)):k0e (n+1) s =
 tif ((decide ((List.length s)=0))) (
 both (
 some []) (
 tif ((decide (((0+(List.length s))*56)≤140737488355328))) (
 some ([]++s)) (
 none))) (
 tif ((decide (((0+(List.length s))*56)≤140737488355328))) (
 some ([]++s)) (
 none)):=by kernel_rfl
theorem n1j (n:Nat) (l:(List (List UInt8×List UInt8))):p0o (n+1) l =
 a0a (i0d n a0b ([],(l,((((List.length l):Nat):Int),(0,()))))) fun r0 =>
 b0y (fun y1 =>
 a0a (g0q n y1.1) fun r2 =>
 some r2.1) (fun z3 =>
 some z3) r0:=by kernel_rfl
theorem p0n (n f:Nat) (b:List UInt8) (s8:(List (List UInt8×List UInt8))) (s9:Int) (s10:Int):i0d n (f+1) (b,s8,s9,s10,()) =
 tif ((decide (s10<s9))) (
 a0a (at? s8 s10) fun r0 =>
 a0a (e0t n a0b (b,(s8,(s9,(s10,(r0,(0,()))))))) fun r1 =>
 b0y (fun y2 =>
 i0d n f (y2.1,(y2.2.1,(y2.2.2.1,((IntKind.wrap .i64 (y2.2.2.2.1+1)),()))))) (fun z3 =>
 some (.inr z3)) r1) (
 some (.inl (b,()))):=by kernel_rfl
theorem k0b (n f:Nat) (b:List UInt8) (s8:(List (List UInt8×List UInt8))) (s9:Int) (s10:Int) (s18:(List UInt8×List UInt8)) (s19:Int):e0t n (f+1) (b,s8,s9,s10,s18,s19,()) =
 tif ((decide (s19<2))) (
 tif ((decide (s19=0))) (
 a0a (strconv_Itoa n (((List.length s18.1):Nat):Int)) fun r0 =>
 a0a (a0p n b r0) fun r1 =>
 a0a (b0o n r1.2.2 (58:Int)) fun r2 =>
 a0a (a0p n r2.2 s18.1) fun r3 =>
 e0t n f (r3.2.2,(s8,(s9,(s10,(s18,((IntKind.wrap .i64 (s19+1)),()))))))) (
 tif ((decide (s19=1))) (
 a0a (strconv_Itoa n (((List.length s18.2):Nat):Int)) fun r4 =>
 a0a (a0p n b r4) fun r5 =>
 a0a (b0o n r5.2.2 (58:Int)) fun r6 =>
 a0a (a0p n r6.2 s18.2) fun r7 =>
 e0t n f (r7.2.2,(s8,(s9,(s10,(s18,((IntKind.wrap .i64 (s19+1)),()))))))) (
 none))) (
 some (.inl (b,(s8,(s9,(s10,())))))):=by kernel_rfl
theorem p1d (n:Nat) (rows:(List TRow)):g1d (n+1) rows =
 a0a (g0x n a0b (rows,(0,(rows,((((List.length rows):Nat):Int),(0,())))))) fun r0 =>
 b0y (fun y1 =>
 some y1.1) (fun z2 =>
 some z2) r0:=by kernel_rfl
theorem r0m (n f:Nat) (rows:(List TRow)) (n_:Int) (s6:(List TRow)) (s7:Int) (s8:Int):g0x n (f+1) (rows,n_,s6,s7,s8,()) =
 tif ((decide (s8<s7))) (
 a0a (at? s6 s8) fun r0 =>
 tif (((decide ((0:Int)≤s8))&&(decide (s8≤(((List.length rows):Nat):Int))))) (
 a0a (g1a n (List.drop 0 (List.take (Int.toNat s8) rows)) r0.1) fun r1 =>
 tif ((!r1)) (
 g0x n f (rows,((IntKind.wrap .i64 (n_+1)),(s6,(s7,((IntKind.wrap .i64 (s8+1)),())))))) (
 g0x n f (rows,(n_,(s6,(s7,((IntKind.wrap .i64 (s8+1)),()))))))) (
 none)) (
 some (.inl (n_,()))):=by kernel_rfl
theorem p1e (n:Nat) (a:TRow) (b:TRow):g1e (n+1) a b =
 a0a (q0f n a.1 b.1) fun r0 =>
 tif (r0) (
 some ((decide (a.2.1=b.2.1))&&((decide (a.2.2.1=b.2.2.1))&&((decide (a.2.2.2.1=b.2.2.2.1))&&(a.2.2.2.2==b.2.2.2.2))))) (
 some false):=by kernel_rfl
theorem x0c (n:Nat) (slices:(List (List TRow))):m0s (n+1) slices =
 a0a (e0d n a0b (slices,(0,((((List.length slices):Nat):Int),(0,()))))) fun r0 =>
 b0y (fun y1 =>
 a0a (s0a n [] y1.2.1) fun r2 =>
 a0a (d0p n a0b (r2,(y1.1,((((List.length y1.1):Nat):Int),(0,()))))) fun r3 =>
 b0y (fun y4 =>
 some y4.1) (fun z5 =>
 some z5) r3) (fun z6 =>
 some z6) r0:=by kernel_rfl
theorem j0q (n f:Nat) (slices:(List (List TRow))) (size:Int) (s10:Int) (s11:Int):e0d n (f+1) (slices,size,s10,s11,()) =
 tif ((decide (s11<s10))) (
 a0a (at? slices s11) fun r0 =>
 a0a ((slices)[(Int.toNat s11)]?) fun r1 =>
 tif ((decide ((IntKind.wrap .i64 (size+(((List.length r1):Nat):Int)))<0))) (
 none) (
 e0d n f ((List.set slices (Int.toNat s11) r1),((IntKind.wrap .i64 (size+(((List.length r1):Nat):Int))),(s10,((IntKind.wrap .i64 (s11+1)),())))))) (
 some (.inl (slices,(size,())))):=by kernel_rfl
theorem i0n (n f:Nat) (newslice:(List TRow)) (s25:(List (List TRow))) (s26:Int) (s27:Int):d0p n (f+1) (newslice,s25,s26,s27,()) =
 tif ((decide (s27<s26))) (
 a0a (at? s25 s27) fun r0 =>
 a0a ((s25)[(Int.toNat s27)]?) fun r1 =>
 tif ((decide ((((List.length newslice)+(List.length r1))*56)≤140737488355328))) (
 d0p n f ((newslice++r1),((List.set s25 (Int.toNat s27) r1),(s26,((IntKind.wrap .i64 (s27+1)),()))))) (
 none)) (
 some (.inl (newslice,()))):=by kernel_rfl
theorem v1e (n:Nat) (rows:(List TRow)) (l:(List (List UInt8×List UInt8))):g1a (n+1) rows l =
 a0a (q0e n a0b (l,(rows,((((List.length rows):Nat):Int),(0,()))))) fun r0 =>
 b0y (fun y1 =>
 some false) (fun z2 =>
 some z2) r0:=by kernel_rfl
theorem t0n (n f:Nat) (l:(List (List UInt8×List UInt8))) (s7:(List TRow)) (s8:Int) (s9:Int):q0e n (f+1) (l,s7,s8,s9,()) =
 tif ((decide (s9<s8))) (
 a0a (at? s7 s9) fun r0 =>
 a0a (q0f n r0.1 l) fun r1 =>
 tif (r1) (
 some (.inr true)) (
 q0e n f (l,(s7,(s8,((IntKind.wrap .i64 (s9+1)),())))))) (
 some (.inl ())):=by kernel_rfl
theorem u0i (n:Nat) (c:b0d):d0s (n+1) c =
 a0a (e0s n c.1 (1:Int) (4096:Int)) fun r0 =>
 tif (r0) (
 a0a (e0s n c.2.2.2.1 (1:Int) (65536:Int)) fun r1 =>
 tif (r1) (
 a0a (e0s n c.2.2.2.2 (1:Int) (8192:Int)) fun r2 =>
 tif (r2) (
 a0a (g0k n c.2.1.1 (1:Int) (1099511627776:Int)) fun r3 =>
 tif (r3) (
 a0a (e0s n c.2.2.1.1 (1:Int) (4096:Int)) fun r4 =>
 tif (r4) (
 a0a (g0k n c.2.1.2.1 (1:Int) (1099511627776:Int)) fun r5 =>
 tif (r5) (
 a0a (e0s n c.2.2.1.2.1 (1:Int) (4096:Int)) fun r6 =>
 tif (r6) (
 a0a (g0k n c.2.1.2.2 (1:Int) (1099511627776:Int)) fun r7 =>
 tif (r7) (
 a0a (e0s n c.2.2.1.2.2 (1:Int) (4096:Int)) fun r8 =>
 tif (r8) (
 tif ((decide (c.2.1.1=0))) (
 none) (
 tif ((decide ((Int.tmod c.2.1.2.1 c.2.1.1)=0))) (
 tif ((decide (c.2.1.1=0))) (
 none) (
 tif ((decide ((IntKind.wrap .i64 (Int.tdiv c.2.1.2.1 c.2.1.1))≤c.2.2.1.1))) (
 tif ((decide (c.2.1.2.1=0))) (
 none) (
 tif ((decide ((Int.tmod c.2.1.2.2 c.2.1.2.1)=0))) (
 tif ((decide (c.2.1.2.1=0))) (
 none) (
 tif ((decide ((IntKind.wrap .i64 (Int.tdiv c.2.1.2.2 c.2.1.2.1))≤c.2.2.1.2.1))) (
 tif ((!(decide ((IntKind.wrap .i64 (Int.tdiv c.2.1.2.2 c.2.1.2.1))≤c.2.2.1.2.1)))) (
 some (2:Int)) (
 a0a (h0e n c) fun r9 =>
 tif ((decide (c.2.2.2.2≤r9))) (
 some (2:Int)) (
 some (0:Int)))) (
 tif ((!(decide ((IntKind.wrap .i64 (Int.tdiv c.2.1.2.2 c.2.1.2.1))≤c.2.2.1.2.1)))) (
 some (2:Int)) (
 a0a (h0e n c) fun r10 =>
 tif ((decide (c.2.2.2.2≤r10))) (
 some (2:Int)) (
 some (0:Int)))))) (
 some (2:Int)))) (
 tif ((!(decide ((IntKind.wrap .i64 (Int.tdiv c.2.1.2.1 c.2.1.1))≤c.2.2.1.1)))) (
 some (2:Int)) (
 a0a (h0e n c) fun r11 =>
 tif ((decide (c.2.2.2.2≤r11))) (
 some (2:Int)) (
 some (0:Int)))))) (
 some (2:Int)))) (
 tif ((!r8)) (
 some (2:Int)) (
 a0a (h0e n c) fun r12 =>
 tif ((decide (c.2.2.2.2≤r12))) (
 some (2:Int)) (
 some (0:Int))))) (
 some (2:Int))) (
 some (2:Int))) (
 some (2:Int))) (
 some (2:Int))) (
 some (2:Int))) (
 some (2:Int))) (
 some (2:Int))) (
 some (2:Int)):=by kernel_rfl
theorem i1y (n:Nat) (c:b0d):v0t (n+1) c =
 a0a (d0s n c) fun r0 =>
 tif ((!(decide (r0=0)))) (
 some (0:Int)) (
 a0a (h0e n c) fun r1 =>
 some r1):=by kernel_rfl
theorem w0l (n:Nat) (c:b0d):l0n (n+1) c =
 tif ((decide (c.1<1))) (
 some (2:Int)) (
 tif ((decide ((4096:Int)<c.1))) (
 some (2:Int)) (
 tif ((decide (c.2.2.2.1<1))) (
 some (2:Int)) (
 tif ((decide ((65536:Int)<c.2.2.2.1))) (
 some (2:Int)) (
 tif ((decide (c.2.2.2.2<1))) (
 some (2:Int)) (
 tif ((decide ((8192:Int)<c.2.2.2.2))) (
 some (2:Int)) (
 tif ((decide (c.2.1.1<1))) (
 some (2:Int)) (
 tif ((decide ((1099511627776:Int)<c.2.1.1))) (
 some (2:Int)) (
 tif ((decide (c.2.2.1.1<1))) (
 some (2:Int)) (
 tif ((decide ((4096:Int)<c.2.2.1.1))) (
 some (2:Int)) (
 tif ((decide (c.2.1.2.1<1))) (
 some (2:Int)) (
 tif ((decide ((1099511627776:Int)<c.2.1.2.1))) (
 some (2:Int)) (
 tif ((decide (c.2.2.1.2.1<1))) (
 some (2:Int)) (
 tif ((decide ((4096:Int)<c.2.2.1.2.1))) (
 some (2:Int)) (
 tif ((decide (c.2.1.1=0))) (
 none) (
 tif ((!(decide ((Int.tmod c.2.1.2.1 c.2.1.1)=0)))) (
 some (2:Int)) (
 tif ((decide (c.2.1.1=0))) (
 none) (
 tif ((decide (c.2.2.1.1<(IntKind.wrap .i64 (Int.tdiv c.2.1.2.1 c.2.1.1))))) (
 some (2:Int)) (
 tif ((decide (c.2.1.2.2<1))) (
 some (2:Int)) (
 tif ((decide ((1099511627776:Int)<c.2.1.2.2))) (
 some (2:Int)) (
 tif ((decide (c.2.2.1.2.2<1))) (
 some (2:Int)) (
 tif ((decide ((4096:Int)<c.2.2.1.2.2))) (
 some (2:Int)) (
 tif ((decide (c.2.1.2.1=0))) (
 none) (
 tif ((!(decide ((Int.tmod c.2.1.2.2 c.2.1.2.1)=0)))) (
 some (2:Int)) (
 tif ((decide (c.2.1.2.1=0))) (
 none) (
 tif ((decide (c.2.2.1.2.1<(IntKind.wrap .i64 (Int.tdiv c.2.1.2.2 c.2.1.2.1))))) (
 some (2:Int)) (
 a0a (t0o n c) fun r0 =>
 tif ((decide (c.2.2.2.2≤r0))) (
 some (2:Int)) (
 some (0:Int)))))))))))))))))))))))))))):=by kernel_rfl
theorem k1z (n:Nat) (c:b0d):z0a (n+1) c =
 a0a (l0n n c) fun r0 =>
 tif ((!(decide (r0=0)))) (
 some (0:Int)) (
 a0a (t0o n c) fun r1 =>
 some r1):=by kernel_rfl
theorem j1m (n:Nat) (s:b0g) (l:(List (List UInt8×List UInt8))) (e:a0t):j0l (n+1) s l e =
 a0a (s0c n s l e) fun r0 =>
 tif ((!(decide (r0.2.2=0)))) (
 some (((0,((0,(0,0)),((0,(0,0)),(0,0)))),(0,(0,[]))),r0.2.2)) (
 a0a (x0z n s r0.1 r0.2.1 l) fun r1 =>
 tif ((!(decide (r1.2=0)))) (
 some (((0,((0,(0,0)),((0,(0,0)),(0,0)))),(0,(0,[]))),r1.2)) (
 a0a (u0z n s.1 r1.1 e) fun r2 =>
 tif ((!(decide (r2.2=0)))) (
 some (((0,((0,(0,0)),((0,(0,0)),(0,0)))),(0,(0,[]))),r2.2)) (
 a0a (j0r n s.2.2.2) fun r3 =>
 a0a (at? r3 r0.1) fun r4 =>
 a0a ((r3)[(Int.toNat r0.1)]?) fun r5 =>
 some ((s.1,(s.2.1,(s.2.2.1,(List.set r3 (Int.toNat r0.1) r2.1)))),0)))):=by kernel_rfl
theorem o1d (n:Nat) (s:b0g):p0w (n+1) s =
 a0a (d0s n s.1) fun r0 =>
 tif ((!(decide (r0=0)))) (
 some (((0,((0,(0,0)),((0,(0,0)),(0,0)))),(0,(0,[]))),2)) (
 tif ((!(decide ((((List.length s.2.2.2):Nat):Int)=s.1.2.2.2.1)))) (
 some (((0,((0,(0,0)),((0,(0,0)),(0,0)))),(0,(0,[]))),2)) (
 some (s,0))):=by kernel_rfl
theorem u0u (n:Nat) (v:b0g):k0u (n+1) v =
 a0a (s0y n v.2.1) fun r0 =>
 tif (r0) (
 tif ((decide (v.2.2.1=((-1):Int)))) (
 some (decide (v.2.2.1≤v.2.1))) (
 a0a (s0y n v.2.2.1) fun r1 =>
 tif (r1) (
 some (decide (v.2.2.1≤v.2.1))) (
 some false))) (
 some false):=by kernel_rfl
theorem u0s (n:Nat) (v:b0g) (is:((Int×Unit)→Option Bool)):d0i (n+1) v is =
 a0a (c0c n a0b (is,((((List.length v.2.2.2):Nat):Int),(0,())))) fun r0 =>
 b0y (fun y1 =>
 some ((-1):Int)) (fun z2 =>
 some z2) r0:=by kernel_rfl
theorem i0j (n f:Nat) (is:((Int×Unit)→Option Bool)) (s9:Int) (s10:Int):c0c n (f+1) (is,s9,s10,()) =
 tif ((decide (s10<s9))) (
 a0a (is (s10,())) fun r0 =>
 tif (r0) (
 some (.inr s10)) (
 c0c n f (is,(s9,((IntKind.wrap .i64 (s10+1)),()))))) (
 some (.inl ())):=by kernel_rfl
theorem a1t (n:Nat) (i:Int) (p1:b0g):d0z (n+1) i p1 =
 a0a (k0t n p1 i) fun r0 =>
 some (!r0):=by kernel_rfl
theorem u0r (n:Nat) (v:b0g) (i:Int):k0t (n+1) v i =
 a0a (at? v.2.2.2 i) fun r0 =>
 a0a (s0z n r0) fun r1 =>
 tif (r1) (
 some true) (
 a0a (o0k n v.1 r0) fun r2 =>
 tif ((decide (r2=0))) (
 tif ((decide ((0:Int)≤r0.2.1))) (
 a0a (i0r n v) fun r3 =>
 tif ((decide (r0.2.1<(IntKind.wrap .i64 (r3+v.1.2.1.1))))) (
 a0a (m0o n v i) fun r4 =>
 some (!r4)) (
 some false)) (
 some false)) (
 some false)):=by kernel_rfl
theorem a1w (n:Nat) (a:d0v) (b:d0v):j0t (n+1) a b =
 a0a (l0t n a.1 b.1) fun r0 =>
 tif (r0) (
 tif ((decide (a.2.1=b.2.1))) (
 a0a (r1t n a.2.2.1 b.2.2.1) fun r1 =>
 tif (r1) (
 tif (((decide (a.2.2.2.2.1=b.2.2.2.2.1))&&((decide (a.2.2.2.2.2.1=b.2.2.2.2.2.1))&&((decide (a.2.2.2.2.2.2.1.1=b.2.2.2.2.2.2.1.1))&&((decide (a.2.2.2.2.2.2.1.2.1=b.2.2.2.2.2.2.1.2.1))&&((decide (a.2.2.2.2.2.2.1.2.2.1=b.2.2.2.2.2.2.1.2.2.1))&&((a.2.2.2.2.2.2.1.2.2.2==b.2.2.2.2.2.2.1.2.2.2)&&((decide (a.2.2.2.2.2.2.2.1.1=b.2.2.2.2.2.2.2.1.1))&&((decide (a.2.2.2.2.2.2.2.1.2.1=b.2.2.2.2.2.2.2.1.2.1))&&((decide (a.2.2.2.2.2.2.2.1.2.2.1=b.2.2.2.2.2.2.2.1.2.2.1))&&((a.2.2.2.2.2.2.2.1.2.2.2==b.2.2.2.2.2.2.2.1.2.2.2)&&((decide (a.2.2.2.2.2.2.2.2.1.1=b.2.2.2.2.2.2.2.2.1.1))&&((decide (a.2.2.2.2.2.2.2.2.1.2=b.2.2.2.2.2.2.2.2.1.2))&&((decide (a.2.2.2.2.2.2.2.2.2.1=b.2.2.2.2.2.2.2.2.2.1))&&((decide (a.2.2.2.2.2.2.2.2.2.2.1=b.2.2.2.2.2.2.2.2.2.2.1))&&(decide (a.2.2.2.2.2.2.2.2.2.2.2=b.2.2.2.2.2.2.2.2.2.2.2))))))))))))))))) (
 a0a (g0f n a.2.2.2.1.1 b.2.2.2.1.1) fun r2 =>
 tif (r2) (
 a0a (g0f n a.2.2.2.1.2.1 b.2.2.2.1.2.1) fun r3 =>
 tif (r3) (
 a0a (g0f n a.2.2.2.1.2.2 b.2.2.2.1.2.2) fun r4 =>
 some r4) (
 some false)) (
 some false)) (
 some false)) (
 some false)) (
 some false)) (
 some false):=by kernel_rfl
theorem b1x (n:Nat) (l:(List (List UInt8×List UInt8))):h0a (n+1) l =
 tif ((decide ((((List.length l):Nat):Int)=0))) (
 some (8:Int)) (
 tif ((decide ((16:Int)<(((List.length l):Nat):Int)))) (
 some (8:Int)) (
 a0a (e0i n a0b (l,(256,(l,((((List.length l):Nat):Int),(0,())))))) fun r0 =>
 b0y (fun y1 =>
 some (0:Int)) (fun z2 =>
 some z2) r0)):=by kernel_rfl
theorem l0u (n f:Nat) (l:(List (List UInt8×List UInt8))) (left:Int) (s14:(List (List UInt8×List UInt8))) (s15:Int) (s16:Int):e0i n (f+1) (l,left,s14,s15,s16,()) =
 tif ((decide (s16<s15))) (
 a0a (at? s14 s16) fun r0 =>
 a0a (v0l n r0.1) fun r1 =>
 tif ((!r1)) (
 some (.inr (8:Int))) (
 tif ((decide ((128:Int)<(((List.length r0.2):Nat):Int)))) (
 some (.inr (8:Int))) (
 tif ((decide ((IntKind.wrap .i64 (left-(IntKind.wrap .i64 ((((List.length r0.1):Nat):Int)+(((List.length r0.2):Nat):Int)))))<0))) (
 some (.inr (8:Int))) (
 tif ((decide ((0:Int)<s16))) (
 a0a (at? l (IntKind.wrap .i64 (s16-1))) fun r2 =>
 tif ((!(Go.Op.bytesLess r2.1 r0.1))) (
 some (.inr (8:Int))) (
 e0i n f (l,((IntKind.wrap .i64 (left-(IntKind.wrap .i64 ((((List.length r0.1):Nat):Int)+(((List.length r0.2):Nat):Int))))),(s14,(s15,((IntKind.wrap .i64 (s16+1)),()))))))) (
 e0i n f (l,((IntKind.wrap .i64 (left-(IntKind.wrap .i64 ((((List.length r0.1):Nat):Int)+(((List.length r0.2):Nat):Int))))),(s14,(s15,((IntKind.wrap .i64 (s16+1)),())))))))))) (
 some (.inl ())):=by kernel_rfl
theorem c1e (n:Nat) (e:a0t):c0z (n+1) e =
 tif ((decide (e.1<0))) (
 some (2:Int)) (
 tif ((decide ((35184372088832:Int)≤e.1))) (
 some (2:Int)) (
 tif ((decide (e.2.2.1<0))) (
 some (2:Int)) (
 tif ((decide (e.1<e.2.2.1))) (
 some (2:Int)) (
 tif (e.2.2.2) (
 tif ((!((decide (e.1=e.1))&&((decide (e.2.1=0))&&((decide (e.2.2.1=0))&&(e.2.2.2==true)))))) (
 some (2:Int)) (
 some (0:Int))) (
 some (0:Int)))))):=by kernel_rfl
theorem p1g (n:Nat) (s:List UInt8):g1g (n+1) s =
 tif ((decide ((((List.length s):Nat):Int)<1))) (
 some false) (
 tif ((decide ((64:Int)<(((List.length s):Nat):Int)))) (
 some false) (
 a0a (at? s (0:Int)) fun r0 =>
 tif ((decide ((48:Int)≤(((UInt8.toNat r0):Nat):Int)))) (
 a0a (at? s (0:Int)) fun r1 =>
 tif ((decide ((((UInt8.toNat r1):Nat):Int)≤57))) (
 some false) (
 a0a (b0l n a0b (s,(0,()))) fun r2 =>
 b0y (fun y3 =>
 some true) (fun z4 =>
 some z4) r2)) (
 a0a (b0l n a0b (s,(0,()))) fun r5 =>
 b0y (fun y6 =>
 some true) (fun z7 =>
 some z7) r5))):=by kernel_rfl
theorem r0n (n f:Nat) (s:List UInt8) (i:Int):b0l n (f+1) (s,i,()) =
 tif ((decide (i<(((List.length s):Nat):Int)))) (
 a0a (at? s i) fun r0 =>
 tif ((decide ((97:Int)≤(((UInt8.toNat r0):Nat):Int)))) (
 tif ((decide ((((UInt8.toNat r0):Nat):Int)≤122))) (
 b0l n f (s,((IntKind.wrap .i64 (i+1)),()))) (
 tif ((decide ((65:Int)≤(((UInt8.toNat r0):Nat):Int)))) (
 tif ((decide ((((UInt8.toNat r0):Nat):Int)≤90))) (
 b0l n f (s,((IntKind.wrap .i64 (i+1)),()))) (
 tif ((decide ((48:Int)≤(((UInt8.toNat r0):Nat):Int)))) (
 tif ((decide ((((UInt8.toNat r0):Nat):Int)≤57))) (
 b0l n f (s,((IntKind.wrap .i64 (i+1)),()))) (
 tif ((!(decide ((((UInt8.toNat r0):Nat):Int)=95)))) (
 some (.inr false)) (
 b0l n f (s,((IntKind.wrap .i64 (i+1)),()))))) (
 tif ((!(decide ((((UInt8.toNat r0):Nat):Int)=95)))) (
 some (.inr false)) (
 b0l n f (s,((IntKind.wrap .i64 (i+1)),())))))) (
 tif ((decide ((48:Int)≤(((UInt8.toNat r0):Nat):Int)))) (
 tif ((decide ((((UInt8.toNat r0):Nat):Int)≤57))) (
 b0l n f (s,((IntKind.wrap .i64 (i+1)),()))) (
 tif ((!(decide ((((UInt8.toNat r0):Nat):Int)=95)))) (
 some (.inr false)) (
 b0l n f (s,((IntKind.wrap .i64 (i+1)),()))))) (
 tif ((!(decide ((((UInt8.toNat r0):Nat):Int)=95)))) (
 some (.inr false)) (
 b0l n f (s,((IntKind.wrap .i64 (i+1)),()))))))) (
 tif ((decide ((65:Int)≤(((UInt8.toNat r0):Nat):Int)))) (
 tif ((decide ((((UInt8.toNat r0):Nat):Int)≤90))) (
 b0l n f (s,((IntKind.wrap .i64 (i+1)),()))) (
 tif ((decide ((48:Int)≤(((UInt8.toNat r0):Nat):Int)))) (
 tif ((decide ((((UInt8.toNat r0):Nat):Int)≤57))) (
 b0l n f (s,((IntKind.wrap .i64 (i+1)),()))) (
 tif ((!(decide ((((UInt8.toNat r0):Nat):Int)=95)))) (
 some (.inr false)) (
 b0l n f (s,((IntKind.wrap .i64 (i+1)),()))))) (
 tif ((!(decide ((((UInt8.toNat r0):Nat):Int)=95)))) (
 some (.inr false)) (
 b0l n f (s,((IntKind.wrap .i64 (i+1)),())))))) (
 tif ((decide ((48:Int)≤(((UInt8.toNat r0):Nat):Int)))) (
 tif ((decide ((((UInt8.toNat r0):Nat):Int)≤57))) (
 b0l n f (s,((IntKind.wrap .i64 (i+1)),()))) (
 tif ((!(decide ((((UInt8.toNat r0):Nat):Int)=95)))) (
 some (.inr false)) (
 b0l n f (s,((IntKind.wrap .i64 (i+1)),()))))) (
 tif ((!(decide ((((UInt8.toNat r0):Nat):Int)=95)))) (
 some (.inr false)) (
 b0l n f (s,((IntKind.wrap .i64 (i+1)),()))))))) (
 some (.inl ())):=by kernel_rfl
theorem y0k (n:Nat) (i:Int):strconv_Itoa (n+1) i =
 a0a (t0b n i) fun r0 =>
 some r0:=by kernel_rfl
theorem a1u (n:Nat) (x0:List TRow) (x1:Int):s0a (n+1) x0 x1=w0p 56 x0 x1:=by
    have h:s0a (n+1) x0 x1=Option.bind (w0p 56 x0 x1) (fun z=>some z):=by kernel_rfl
    rw[h];cases w0p 56 x0 x1<;>rfl
theorem c1h (n:Nat) (n_:Int) (low:Int) (high:Int):e0s (n+1) n_ low high =
 tif ((decide (low≤n_))) (
 some (decide (n_≤high))) (
 some false):=by kernel_rfl
theorem x0j (n:Nat) (n_:Int) (low:Int) (high:Int):g0k (n+1) n_ low high =
 tif ((decide (low≤n_))) (
 some (decide (n_≤high))) (
 some false):=by kernel_rfl
theorem i1w (n:Nat) (c:b0d):h0e (n+1) c =
 a0a (j0h n c.1 (16:Int)) fun r0 =>
 a0a (j0h n c.2.2.1.1 (4:Int)) fun r1 =>
 a0a (j0h n c.2.2.1.2.1 (4:Int)) fun r2 =>
 a0a (j0h n c.2.2.1.2.2 (4:Int)) fun r3 =>
 some (IntKind.wrap .i64 ((IntKind.wrap .i64 ((IntKind.wrap .i64 ((IntKind.wrap .i64 ((1:Int)+r0))+r1))+r2))+r3)):=by kernel_rfl
theorem k1w (n:Nat) (c:b0d):t0o (n+1) c =
 a0a (l0m n c.1 (16:Int)) fun r0 =>
 a0a (l0m n c.2.2.1.1 (4:Int)) fun r1 =>
 a0a (l0m n c.2.2.1.2.1 (4:Int)) fun r2 =>
 a0a (l0m n c.2.2.1.2.2 (4:Int)) fun r3 =>
 some (IntKind.wrap .i64 ((IntKind.wrap .i64 ((IntKind.wrap .i64 ((IntKind.wrap .i64 ((1:Int)+r0))+r1))+r2))+r3)):=by kernel_rfl
theorem a1y (n:Nat) (s:b0g) (l:(List (List UInt8×List UInt8))) (e:a0t):s0c (n+1) s l e =
 a0a (t0a n s) fun r0 =>
 tif ((!(decide (r0=0)))) (
 some (0,(false,r0))) (
 a0a (h0a n l) fun r1 =>
 tif ((!(decide (r1=0)))) (
 some (0,(false,r1))) (
 a0a (c0z n e) fun r2 =>
 tif ((!(decide (r2=0)))) (
 some (0,(false,r2))) (
 a0a (v0a n s) fun r3 =>
 a0a (f1i n s l) fun r4 =>
 tif ((decide (e.1<r3.1))) (
 some (0,(false,9))) (
 tif ((decide (r3.2≤e.1))) (
 some (0,(false,9))) (
 tif ((decide (r4.2=0))) (
 a0a (at? s.2.2.2 r4.1) fun r5 =>
 tif ((decide (e.1≤r5.2.1))) (
 some (0,(false,9))) (
 tif ((decide (r4.2=0))) (
 some (r4.1,(false,0))) (
 tif (e.2.2.2) (
 some (0,(false,3))) (
 a0a (x0l n s) fun r6 =>
 some (r6.1,((decide (r6.2=0)),r6.2)))))) (
 tif ((decide (r4.2=0))) (
 some (r4.1,(false,0))) (
 tif (e.2.2.2) (
 some (0,(false,3))) (
 a0a (x0l n s) fun r7 =>
 some (r7.1,((decide (r7.2=0)),r7.2)))))))))):=by kernel_rfl
theorem a1q (n:Nat) (s:b0g) (i:Int) (fresh:Bool) (l:(List (List UInt8×List UInt8))):x0z (n+1) s i fresh l =
 tif (fresh) (
 a0a (q0d n s.1 l) fun r0 =>
 some r0) (
 a0a (at? s.2.2.2 i) fun r1 =>
 some (r1,0)):=by kernel_rfl
theorem f1q (n:Nat) (c:b0d) (s:d0v) (e:a0t):u0z (n+1) c s e =
 a0a (m0u n c s) fun r0 =>
 z0l (r0.1) (
 tif ((!(decide (r0.2=0)))) (
 some (([],(0,((0,(0,[])),(([],([],[])),(0,(0,((0,(0,(0,false))),((0,(0,(0,false))),((0,0),(0,(0,0))))))))))),2)) (
 a0a (c0z n e) fun r1 =>
 tif ((!(decide (r1=0)))) (
 some (([],(0,((0,(0,[])),(([],([],[])),(0,(0,((0,(0,(0,false))),((0,(0,(0,false))),((0,0),(0,(0,0))))))))))),2)) (
 tif ((decide (e.1≤s.2.1))) (
 some (([],(0,((0,(0,[])),(([],([],[])),(0,(0,((0,(0,(0,false))),((0,(0,(0,false))),((0,0),(0,(0,0))))))))))),9)) (
 tif ((decide (c.2.1.1=0))) (
 none) (
 none))))) fun r2 =>
 tif ((!(decide (r0.2=0)))) (
 some (([],(0,((0,(0,[])),(([],([],[])),(0,(0,((0,(0,(0,false))),((0,(0,(0,false))),((0,0),(0,(0,0))))))))))),2)) (
 a0a (c0z n e) fun r3 =>
 tif ((!(decide (r3=0)))) (
 some (([],(0,((0,(0,[])),(([],([],[])),(0,(0,((0,(0,(0,false))),((0,(0,(0,false))),((0,0),(0,(0,0))))))))))),2)) (
 tif ((decide (e.1≤s.2.1))) (
 some (([],(0,((0,(0,[])),(([],([],[])),(0,(0,((0,(0,(0,false))),((0,(0,(0,false))),((0,0),(0,(0,0))))))))))),9)) (
 tif ((decide (c.2.1.1=0))) (
 none) (
 a0a (f1k n r2 (IntKind.wrap .i64 (Int.tdiv e.1 c.2.1.1))) fun r4 =>
 tif ((!(decide (r4.1=0)))) (
 some (([],(0,((0,(0,[])),(([],([],[])),(0,(0,((0,(0,(0,false))),((0,(0,(0,false))),((0,0),(0,(0,0))))))))))),r4.1)) (
 a0a (y1t n r4.2 (IntKind.wrap .i64 (Int.tdiv e.1 c.2.1.1)) e) fun r5 =>
 tif ((!(decide (r5.1=0)))) (
 some (([],(0,((0,(0,[])),(([],([],[])),(0,(0,((0,(0,(0,false))),((0,(0,(0,false))),((0,0),(0,(0,0))))))))))),r5.1)) (
 some (r5.2.2,0))))))):=by kernel_rfl
theorem t0k (n:Nat) (s:(List d0v)):j0r (n+1) s =
 tif ((decide ((List.length s)=0))) (
 both (
 some []) (
 tif ((decide (((0+(List.length s))*264)≤140737488355328))) (
 some ([]++s)) (
 none))) (
 tif ((decide (((0+(List.length s))*264)≤140737488355328))) (
 some ([]++s)) (
 none)):=by kernel_rfl
theorem o1c (n:Nat) (t:Int):s0y (n+1) t =
 tif ((decide ((0:Int)≤t))) (
 some (decide (t<35184372088832))) (
 some false):=by kernel_rfl
theorem k1b (n:Nat) (s:d0v):s0z (n+1) s =
 a0a (j0t n s ([],(0,((0,(0,[])),(([],([],[])),(0,(0,((0,(0,(0,false))),((0,(0,(0,false))),((0,0),(0,(0,0)))))))))))) fun r0 =>
 some r0:=by kernel_rfl
theorem y0s (n:Nat) (c:b0d) (s:d0v):o0k (n+1) c s =
 a0a (m0u n c s) fun r0 =>
 z0l (r0.1) (
 some r0.2) fun r1 =>
 some r0.2:=by kernel_rfl
theorem w0y (n:Nat) (v:b0g):i0r (n+1) v =
 tif ((decide (v.1.2.1.1=0))) (
 none) (
 some (IntKind.wrap .i64 (v.2.1-(Int.tmod v.2.1 v.1.2.1.1)))):=by kernel_rfl
theorem w0x (n:Nat) (v:b0g) (i:Int):m0o (n+1) v i =
 a0a (d0i n v (fun y0=>e0o n y0.1 i v)) fun r1 =>
 tif ((decide (r1<i))) (
 a0a (e0h n v i) fun r2 =>
 some r2) (
 some false):=by kernel_rfl
theorem t0v (n:Nat) (a:(List (List UInt8×List UInt8))) (b:(List (List UInt8×List UInt8))):l0t (n+1) a b =
 a0a (k0x n a b) fun r0 =>
 some r0:=by kernel_rfl
theorem o1y (n:Nat) (a:(Int×(Int×(List a0t)))) (b:(Int×(Int×(List a0t)))):r1t (n+1) a b =
 tif ((decide (a.1=b.1))) (
 tif ((decide (a.2.1=b.2.1))) (
 a0a (k0y n a.2.2 b.2.2) fun r0 =>
 some r0) (
 some false)) (
 some false):=by kernel_rfl
theorem x0b (n:Nat) (s1:(List a0c)) (s2:(List a0c)):g0f (n+1) s1 s2 =
 tif ((!(decide ((((List.length s1):Nat):Int)=(((List.length s2):Nat):Int))))) (
 some false) (
 a0a (f0q n a0b (s1,(s2,((((List.length s1):Nat):Int),(0,()))))) fun r0 =>
 b0y (fun y1 =>
 some true) (fun z2 =>
 some z2) r0):=by kernel_rfl
theorem j0p (n f:Nat) (s1:(List a0c)) (s2:(List a0c)) (s12:Int) (s13:Int):f0q n (f+1) (s1,s2,s12,s13,()) =
 tif ((decide (s13<s12))) (
 a0a (at? s1 s13) fun r0 =>
 a0a (at? s2 s13) fun r1 =>
 tif ((!((decide (r0.1=r1.1))&&((decide (r0.2.1=r1.2.1))&&((decide (r0.2.2.1.1=r1.2.2.1.1))&&((decide (r0.2.2.1.2.1=r1.2.2.1.2.1))&&((decide (r0.2.2.1.2.2.1=r1.2.2.1.2.2.1))&&((r0.2.2.1.2.2.2==r1.2.2.1.2.2.2)&&((decide (r0.2.2.2.1.1=r1.2.2.2.1.1))&&((decide (r0.2.2.2.1.2.1=r1.2.2.2.1.2.1))&&((decide (r0.2.2.2.1.2.2.1=r1.2.2.2.1.2.2.1))&&((r0.2.2.2.1.2.2.2==r1.2.2.2.1.2.2.2)&&((decide (r0.2.2.2.2.1.1=r1.2.2.2.2.1.1))&&((decide (r0.2.2.2.2.1.2=r1.2.2.2.2.1.2))&&((decide (r0.2.2.2.2.2.1=r1.2.2.2.2.2.1))&&((decide (r0.2.2.2.2.2.2.1=r1.2.2.2.2.2.2.1))&&(decide (r0.2.2.2.2.2.2.2=r1.2.2.2.2.2.2.2)))))))))))))))))) (
 some (.inr false)) (
 f0q n f (s1,(s2,(s12,((IntKind.wrap .i64 (s13+1)),())))))) (
 some (.inl ())):=by kernel_rfl
theorem u0t (n:Nat) (v:b0g) (i:Int):e0h (n+1) v i =
 a0a (at? v.2.2.2 i) fun r0 =>
 a0a (s0z n r0) fun r1 =>
 tif ((!r1)) (
 tif ((decide (v.2.2.1=((-1):Int)))) (
 some true) (
 a0a (s0b n v.1 r0.2.1 v.2.2.1) fun r2 =>
 some (!r2))) (
 some false):=by kernel_rfl
theorem h1o (n:Nat) (s:List UInt8):v0l (n+1) s =
 tif ((s==[])) (
 some false) (
 tif ((decide ((64:Int)<(((List.length s):Nat):Int)))) (
 some false) (
 a0a (at? s (0:Int)) fun r0 =>
 a0a (n0j n (((UInt8.toNat r0):Nat):Int)) fun r1 =>
 tif (r1) (
 some false) (
 a0a (f0j n (List.map (fun y2=>(((UInt8.toNat y2):Nat):Int)) s) (fun y3=>p0b n y3.1)) fun r4 =>
 some (!r4)))):=by kernel_rfl
theorem w0z (n:Nat) (i:Int):t0b (n+1) i =
 a0a (l0h n i (10:Int)) fun r0 =>
 some r0:=by kernel_rfl
theorem i1x (n:Nat) (n_:Int) (by_:Int):j0h (n+1) n_ by_ =
 tif ((decide (by_=0))) (
 none) (
 some (IntKind.wrap .i64 (Int.tdiv (IntKind.wrap .i64 ((IntKind.wrap .i64 (n_+by_))-1)) by_))):=by kernel_rfl
theorem k1x (n:Nat) (n_:Int) (each:Int):l0m (n+1) n_ each =
 a0a (k0k n a0b (n_,(each,(0,())))) fun r0 =>
 b0y (fun y1 =>
 some y1.1) (fun z2 =>
 some z2) r0:=by kernel_rfl
theorem o0s (n f:Nat) (n_:Int) (each:Int) (k:Int):k0k n (f+1) (n_,each,k,()) =
 tif ((decide ((0:Int)<n_))) (
 k0k n f ((IntKind.wrap .i64 (n_-each)),(each,((IntKind.wrap .i64 (k+1)),())))) (
 some (.inl (k,()))):=by kernel_rfl
theorem f1t (n:Nat) (s:b0g):v0a (n+1) s =
 a0a (t0a n s) fun r0 =>
 tif ((!(decide (r0=0)))) (
 some (0,0)) (
 a0a (f1g n s) fun r1 =>
 some (r1,(if (35184372088832:Int)<(IntKind.wrap .i64 (r1+s.1.2.1.1)) then (35184372088832:Int) else (IntKind.wrap .i64 (r1+s.1.2.1.1))))):=by kernel_rfl
theorem o1g (n:Nat) (s:b0g) (l:(List (List UInt8×List UInt8))):f1i (n+1) s l =
 a0a (p0w n s) fun r0 =>
 tif ((!(decide (r0.2=0)))) (
 some (0,r0.2)) (
 a0a (d0i n r0.1 (fun y1=>e0x n y1.1 s l r0.1)) fun r2 =>
 tif ((decide (r2<0))) (
 some (0,3)) (
 some (r2,0))):=by kernel_rfl
theorem o1e (n:Nat) (s:b0g):x0l (n+1) s =
 a0a (p0w n s) fun r0 =>
 tif ((!(decide (r0.2=0)))) (
 some (0,r0.2)) (
 a0a (d0i n r0.1 (fun y1=>e0w n y1.1 r0.1)) fun r2 =>
 tif ((decide (r2<0))) (
 some (0,7)) (
 some (r2,0))):=by kernel_rfl
theorem f1r (n:Nat) (c:b0d) (l:(List (List UInt8×List UInt8))):q0d (n+1) c l =
 a0a (d0s n c) fun r0 =>
 tif ((!(decide (r0=0)))) (
 some (([],(0,((0,(0,[])),(([],([],[])),(0,(0,((0,(0,(0,false))),((0,(0,(0,false))),((0,0),(0,(0,0))))))))))),r0)) (
 a0a (h0a n l) fun r1 =>
 tif ((!(decide (r1=0)))) (
 some (([],(0,((0,(0,[])),(([],([],[])),(0,(0,((0,(0,(0,false))),((0,(0,(0,false))),((0,0),(0,(0,0))))))))))),r1)) (
 a0a (k0z n l) fun r2 =>
 a0a (v0n n c) fun r3 =>
 some ((r2,(((-1):Int),((0,(0,[])),(r3,(0,(0,((0,(0,(0,false))),((0,(0,(0,false))),((0,0),(0,(0,0))))))))))),0))):=by kernel_rfl
theorem a1v (n:Nat) (c:b0d) (s:d0v):m0u (n+1) c s =
 a0a (v0p n c s.2.2.2.1) fun r0 =>
 tif ((!(decide (r0=0)))) (
 some (none,2)) (
 a0a (h0a n s.1) fun r1 =>
 tif ((!(decide (r1=0)))) (
 some (none,2)) (
 a0a (t0m n s.2.2.1 c.1) fun r2 =>
 tif ((!(decide (r2=0)))) (
 some (none,2)) (
 tif ((decide (s.2.1=((-1):Int)))) (
 a0a (y0l n (c,s)) fun r3 =>
 tif (r3) (
 some ((some (c,s)),0)) (
 tif ((!(decide (s.2.1=((-1):Int))))) (
 a0a (x0n n (c,s)) fun r4 =>
 tif (r4) (
 some ((some (c,s)),0)) (
 some (none,2))) (
 some (none,2)))) (
 tif ((!(decide (s.2.1=((-1):Int))))) (
 a0a (x0n n (c,s)) fun r5 =>
 tif (r5) (
 some ((some (c,s)),0)) (
 some (none,2))) (
 some (none,2)))))):=by kernel_rfl
theorem o1i (n:Nat) (s:c0i) (i:Int):f1k (n+1) s i =
 tif ((decide (s.2.2.2.2.2.1=i))) (
 some (0,s)) (
 tif ((decide (s.2.2.2.2.2.2.1=0))) (
 some (0,s)) (
 a0a (v0o n s.1 s.2.2.2.2.1 s.2.2.2.2.2 i) fun r0 =>
 tif ((decide (r0.2=0))) (
 some (r0.2,(s.1,(s.2.1,(s.2.2.1,(s.2.2.2.1,(r0.1,(0,(0,((0,(0,(0,false))),((0,(0,(0,false))),((0,0),(0,(0,0)))))))))))))) (
 some (r0.2,s)))):=by kernel_rfl
theorem u1f (n:Nat) (s:c0i) (i:Int) (e:a0t):y1t (n+1) s i e =
 a0a (o1z n s.2.2.2.1 s.1.1 e) fun r0 =>
 a0a (j1e n s.2.2.2.2.2.2 e) fun r1 =>
 tif ((!(decide (r0.2=0)))) (
 some (r0.2,s)) (
 some (r1.2,(s.1,(s.2.1,(e.1,(r0.1,(s.2.2.2.2.1,(i,r1.1)))))))):=by kernel_rfl
theorem s0x (n:Nat) (k:Int) (p1:Int) (p2:b0g):e0o (n+1) k p1 p2 =
 tif ((decide (k=p1))) (
 some true) (
 a0a (e0h n p2 k) fun r0 =>
 tif (r0) (
 a0a (at? p2.2.2.2 k) fun r1 =>
 a0a (at? p2.2.2.2 p1) fun r2 =>
 a0a (l0t n r1.1 r2.1) fun r3 =>
 some r3) (
 some false)):=by kernel_rfl
theorem u0v (n:Nat) (s1:(List (List UInt8×List UInt8))) (s2:(List (List UInt8×List UInt8))):k0x (n+1) s1 s2 =
 tif ((!(decide ((((List.length s1):Nat):Int)=(((List.length s2):Nat):Int))))) (
 some false) (
 a0a (e0z n a0b (s1,(s2,((((List.length s1):Nat):Int),(0,()))))) fun r0 =>
 b0y (fun y1 =>
 some true) (fun z2 =>
 some z2) r0):=by kernel_rfl
theorem i0l (n f:Nat) (s1:(List (List UInt8×List UInt8))) (s2:(List (List UInt8×List UInt8))) (s12:Int) (s13:Int):e0z n (f+1) (s1,s2,s12,s13,()) =
 tif ((decide (s13<s12))) (
 a0a (at? s1 s13) fun r0 =>
 a0a (at? s2 s13) fun r1 =>
 tif ((!((r0.1==r1.1)&&(r0.2==r1.2)))) (
 some (.inr false)) (
 e0z n f (s1,(s2,(s12,((IntKind.wrap .i64 (s13+1)),())))))) (
 some (.inl ())):=by kernel_rfl
theorem u0w (n:Nat) (s1:(List a0t)) (s2:(List a0t)):k0y (n+1) s1 s2 =
 tif ((!(decide ((((List.length s1):Nat):Int)=(((List.length s2):Nat):Int))))) (
 some false) (
 a0a (f0b n a0b (s1,(s2,((((List.length s1):Nat):Int),(0,()))))) fun r0 =>
 b0y (fun y1 =>
 some true) (fun z2 =>
 some z2) r0):=by kernel_rfl
theorem i0m (n f:Nat) (s1:(List a0t)) (s2:(List a0t)) (s12:Int) (s13:Int):f0b n (f+1) (s1,s2,s12,s13,()) =
 tif ((decide (s13<s12))) (
 a0a (at? s1 s13) fun r0 =>
 a0a (at? s2 s13) fun r1 =>
 tif ((!((decide (r0.1=r1.1))&&((decide (r0.2.1=r1.2.1))&&((decide (r0.2.2.1=r1.2.2.1))&&(r0.2.2.2==r1.2.2.2)))))) (
 some (.inr false)) (
 f0b n f (s1,(s2,(s12,((IntKind.wrap .i64 (s13+1)),())))))) (
 some (.inl ())):=by kernel_rfl
theorem a1x (n:Nat) (c:b0d) (last:Int) (now:Int):s0b (n+1) c last now =
 a0a (d0s n c) fun r0 =>
 tif ((decide (r0=0))) (
 a0a (y0d n last now c.2.1.1 c.2.2.1.1) fun r1 =>
 tif (r1) (
 a0a (y0d n last now c.2.1.2.1 c.2.2.1.2.1) fun r2 =>
 tif (r2) (
 a0a (y0d n last now c.2.1.2.2 c.2.2.1.2.2) fun r3 =>
 tif (r3) (
 some r3) (
 some r3)) (
 some r2)) (
 some r1)) (
 some (decide (r0=0))):=by kernel_rfl
theorem b1w (n:Nat) (c:Int):n0j (n+1) c =
 tif ((decide ((48:Int)≤c))) (
 some (decide (c≤57))) (
 some false):=by kernel_rfl
theorem m0q (n:Nat) (s:(List Int)) (f_:((Int×Unit)→Option Bool)):f0j (n+1) s f_ =
 a0a (l0l n s f_) fun r0 =>
 some (decide ((0:Int)≤r0)):=by kernel_rfl
theorem z0p (n:Nat) (c:Int):p0b (n+1) c =
 a0a (v0k n c) fun r0 =>
 some (!r0):=by kernel_rfl
theorem h1m (n:Nat) (c:Int):v0k (n+1) c =
 a0a (n0j n c) fun r0 =>
 tif (r0) (
 some true) (
 tif ((decide (c=95))) (
 some true) (
 tif ((decide ((97:Int)≤(orI .u8 c (32:Int))))) (
 some (decide ((orI .u8 c (32:Int))≤122))) (
 some false))):=by kernel_rfl
theorem q0v (n:Nat) (i:Int) (base:Int):l0h (n+1) i base =
 tif ((decide (base=10))) (
 tif ((decide ((0:Int)≤i))) (
 tif ((decide (i<100))) (
 a0a (i0t n i) fun r0 =>
 some r0) (
 tif ((decide (i<0))) (
 a0a (e0y n (IntKind.wrap .u64 ((0:Int)-(IntKind.wrap .u64 i)))) fun r1 =>
 tif (((decide ((1:Int)≤(IntKind.wrap .i64 ((1:Int)+r1))))&&(decide ((IntKind.wrap .i64 ((1:Int)+r1))≤24)))) (
 a0a (d0n n ((List.replicate 24 (0:Int)),(1,((Int.toNat (IntKind.wrap .i64 ((1:Int)+r1)))-1))) (IntKind.wrap .u64 ((0:Int)-(IntKind.wrap .u64 i)))) fun r2 =>
 tif (((decide ((List.length r2.1)=24))&&((decide (r2.2.1=1))&&true))) (
 tif ((decide (i<0))) (
 tif ((true&&(true&&(decide ((0:Int)<(((List.length r2.1):Nat):Int)))))) (
 a0a ((r2.1)[0]?) fun r3 =>
 tif ((decide ((List.length (List.set r2.1 0 (45:Int)))=24))) (
 tif (((decide ((0:Int)≤(IntKind.wrap .i64 ((1:Int)+r1))))&&(decide ((IntKind.wrap .i64 ((1:Int)+r1))≤24)))) (
 some (List.map (fun y4=>(UInt8.ofNat (Int.toNat y4))) (List.take ((Int.toNat (IntKind.wrap .i64 ((1:Int)+r1)))-0) (List.drop 0 (List.set r2.1 0 (45:Int)))))) (
 none)) (
 none)) (
 none)) (
 tif ((decide ((List.length r2.1)=24))) (
 tif (((decide ((1:Int)≤(IntKind.wrap .i64 ((1:Int)+r1))))&&(decide ((IntKind.wrap .i64 ((1:Int)+r1))≤24)))) (
 some (List.map (fun y5=>(UInt8.ofNat (Int.toNat y5))) (List.take ((Int.toNat (IntKind.wrap .i64 ((1:Int)+r1)))-1) (List.drop 1 r2.1)))) (
 none)) (
 none))) (
 none)) (
 none)) (
 a0a (e0y n (IntKind.wrap .u64 i)) fun r6 =>
 tif (((decide ((1:Int)≤(IntKind.wrap .i64 ((1:Int)+r6))))&&(decide ((IntKind.wrap .i64 ((1:Int)+r6))≤24)))) (
 a0a (d0n n ((List.replicate 24 (0:Int)),(1,((Int.toNat (IntKind.wrap .i64 ((1:Int)+r6)))-1))) (IntKind.wrap .u64 i)) fun r7 =>
 tif (((decide ((List.length r7.1)=24))&&((decide (r7.2.1=1))&&true))) (
 tif ((decide (i<0))) (
 tif ((true&&(true&&(decide ((0:Int)<(((List.length r7.1):Nat):Int)))))) (
 a0a ((r7.1)[0]?) fun r8 =>
 tif ((decide ((List.length (List.set r7.1 0 (45:Int)))=24))) (
 tif (((decide ((0:Int)≤(IntKind.wrap .i64 ((1:Int)+r6))))&&(decide ((IntKind.wrap .i64 ((1:Int)+r6))≤24)))) (
 some (List.map (fun y9=>(UInt8.ofNat (Int.toNat y9))) (List.take ((Int.toNat (IntKind.wrap .i64 ((1:Int)+r6)))-0) (List.drop 0 (List.set r7.1 0 (45:Int)))))) (
 none)) (
 none)) (
 none)) (
 tif ((decide ((List.length r7.1)=24))) (
 tif (((decide ((1:Int)≤(IntKind.wrap .i64 ((1:Int)+r6))))&&(decide ((IntKind.wrap .i64 ((1:Int)+r6))≤24)))) (
 some (List.map (fun y10=>(UInt8.ofNat (Int.toNat y10))) (List.take ((Int.toNat (IntKind.wrap .i64 ((1:Int)+r6)))-1) (List.drop 1 r7.1)))) (
 none)) (
 none))) (
 none)) (
 none)))) (
 tif ((decide (i<0))) (
 a0a (e0y n (IntKind.wrap .u64 ((0:Int)-(IntKind.wrap .u64 i)))) fun r11 =>
 tif (((decide ((1:Int)≤(IntKind.wrap .i64 ((1:Int)+r11))))&&(decide ((IntKind.wrap .i64 ((1:Int)+r11))≤24)))) (
 a0a (d0n n ((List.replicate 24 (0:Int)),(1,((Int.toNat (IntKind.wrap .i64 ((1:Int)+r11)))-1))) (IntKind.wrap .u64 ((0:Int)-(IntKind.wrap .u64 i)))) fun r12 =>
 tif (((decide ((List.length r12.1)=24))&&((decide (r12.2.1=1))&&true))) (
 tif ((decide (i<0))) (
 tif ((true&&(true&&(decide ((0:Int)<(((List.length r12.1):Nat):Int)))))) (
 a0a ((r12.1)[0]?) fun r13 =>
 tif ((decide ((List.length (List.set r12.1 0 (45:Int)))=24))) (
 tif (((decide ((0:Int)≤(IntKind.wrap .i64 ((1:Int)+r11))))&&(decide ((IntKind.wrap .i64 ((1:Int)+r11))≤24)))) (
 some (List.map (fun y14=>(UInt8.ofNat (Int.toNat y14))) (List.take ((Int.toNat (IntKind.wrap .i64 ((1:Int)+r11)))-0) (List.drop 0 (List.set r12.1 0 (45:Int)))))) (
 none)) (
 none)) (
 none)) (
 tif ((decide ((List.length r12.1)=24))) (
 tif (((decide ((1:Int)≤(IntKind.wrap .i64 ((1:Int)+r11))))&&(decide ((IntKind.wrap .i64 ((1:Int)+r11))≤24)))) (
 some (List.map (fun y15=>(UInt8.ofNat (Int.toNat y15))) (List.take ((Int.toNat (IntKind.wrap .i64 ((1:Int)+r11)))-1) (List.drop 1 r12.1)))) (
 none)) (
 none))) (
 none)) (
 none)) (
 a0a (e0y n (IntKind.wrap .u64 i)) fun r16 =>
 tif (((decide ((1:Int)≤(IntKind.wrap .i64 ((1:Int)+r16))))&&(decide ((IntKind.wrap .i64 ((1:Int)+r16))≤24)))) (
 a0a (d0n n ((List.replicate 24 (0:Int)),(1,((Int.toNat (IntKind.wrap .i64 ((1:Int)+r16)))-1))) (IntKind.wrap .u64 i)) fun r17 =>
 tif (((decide ((List.length r17.1)=24))&&((decide (r17.2.1=1))&&true))) (
 tif ((decide (i<0))) (
 tif ((true&&(true&&(decide ((0:Int)<(((List.length r17.1):Nat):Int)))))) (
 a0a ((r17.1)[0]?) fun r18 =>
 tif ((decide ((List.length (List.set r17.1 0 (45:Int)))=24))) (
 tif (((decide ((0:Int)≤(IntKind.wrap .i64 ((1:Int)+r16))))&&(decide ((IntKind.wrap .i64 ((1:Int)+r16))≤24)))) (
 some (List.map (fun y19=>(UInt8.ofNat (Int.toNat y19))) (List.take ((Int.toNat (IntKind.wrap .i64 ((1:Int)+r16)))-0) (List.drop 0 (List.set r17.1 0 (45:Int)))))) (
 none)) (
 none)) (
 none)) (
 tif ((decide ((List.length r17.1)=24))) (
 tif (((decide ((1:Int)≤(IntKind.wrap .i64 ((1:Int)+r16))))&&(decide ((IntKind.wrap .i64 ((1:Int)+r16))≤24)))) (
 some (List.map (fun y20=>(UInt8.ofNat (Int.toNat y20))) (List.take ((Int.toNat (IntKind.wrap .i64 ((1:Int)+r16)))-1) (List.drop 1 r17.1)))) (
 none)) (
 none))) (
 none)) (
 none)))) (
 none):=by kernel_rfl
theorem o1f (n:Nat) (s:b0g):f1g (n+1) s =
 a0a (p0w n s) fun r0 =>
 tif ((!(decide (r0.2=0)))) (
 some (0:Int)) (
 a0a (s0y n s.2.1) fun r1 =>
 tif ((!r1)) (
 some (0:Int)) (
 a0a (i0r n r0.1) fun r2 =>
 some r2)):=by kernel_rfl
theorem f1h (n:Nat) (i:Int) (p1:b0g) (p2:(List (List UInt8×List UInt8))) (p3:b0g):e0x (n+1) i p1 p2 p3 =
 a0a (at? p1.2.2.2 i) fun r0 =>
 a0a (l0t n r0.1 p2) fun r1 =>
 tif (r1) (
 a0a (e0h n p3 i) fun r2 =>
 some r2) (
 some false):=by kernel_rfl
theorem f1f (n:Nat) (i:Int) (p1:b0g):e0w (n+1) i p1 =
 a0a (e0h n p1 i) fun r0 =>
 some (!r0):=by kernel_rfl
theorem u0x (n:Nat) (s:(List (List UInt8×List UInt8))):k0z (n+1) s =
 tif ((decide ((List.length s)=0))) (
 both (
 some []) (
 tif ((decide (((0+(List.length s))*32)≤140737488355328))) (
 some ([]++s)) (
 none))) (
 tif ((decide (((0+(List.length s))*32)≤140737488355328))) (
 some ([]++s)) (
 none)):=by kernel_rfl
theorem h1y (n:Nat) (c:b0d):v0n (n+1) c =
 a0a (d0s n c) fun r0 =>
 tif ((!(decide (r0=0)))) (
 some ([],([],[]))) (
 a0a (s0u n c.2.2.1.1) fun r1 =>
 a0a (s0u n c.2.2.1.2.1) fun r2 =>
 a0a (s0u n c.2.2.1.2.2) fun r3 =>
 some (r1,(r2,r3))):=by kernel_rfl
theorem i1b (n:Nat) (c:b0d) (s:((List a0c)×((List a0c)×(List a0c)))):v0p (n+1) c s =
 a0a (u0d n c s) fun r0 =>
 z0l (r0.1) (
 some r0.2) fun r1 =>
 some r0.2:=by kernel_rfl
theorem k1o (n:Nat) (r:(Int×(Int×(List a0t)))) (room:Int):t0m (n+1) r room =
 tif ((decide (room<1))) (
 some (2:Int)) (
 tif ((decide ((4096:Int)<room))) (
 some (2:Int)) (
 tif ((decide (room<(((List.length r.2.2):Nat):Int)))) (
 some (2:Int)) (
 tif ((decide (r.1<0))) (
 some (2:Int)) (
 tif ((decide ((70368744177664:Int)<r.1))) (
 some (2:Int)) (
 a0a (v0c n r.2.2) fun r0 =>
 tif ((!r0)) (
 some (2:Int)) (
 a0a (d1i n r room) fun r1 =>
 tif ((!r1)) (
 some (2:Int)) (
 some (0:Int)))))))):=by kernel_rfl
theorem k1e (n:Nat) (s:c0i):y0l (n+1) s =
 tif ((decide ((((List.length s.2.2.2.1.2.2):Nat):Int)=0))) (
 tif (((decide (s.2.2.2.2.2.1=0))&&((decide (s.2.2.2.2.2.2.1=0))&&((decide (s.2.2.2.2.2.2.2.1.1=0))&&((decide (s.2.2.2.2.2.2.2.1.2.1=0))&&((decide (s.2.2.2.2.2.2.2.1.2.2.1=0))&&((s.2.2.2.2.2.2.2.1.2.2.2==false)&&((decide (s.2.2.2.2.2.2.2.2.1.1=0))&&((decide (s.2.2.2.2.2.2.2.2.1.2.1=0))&&((decide (s.2.2.2.2.2.2.2.2.1.2.2.1=0))&&((s.2.2.2.2.2.2.2.2.1.2.2.2==false)&&((decide (s.2.2.2.2.2.2.2.2.2.1.1=0))&&((decide (s.2.2.2.2.2.2.2.2.2.1.2=0))&&((decide (s.2.2.2.2.2.2.2.2.2.2.1=0))&&((decide (s.2.2.2.2.2.2.2.2.2.2.2.1=0))&&(decide (s.2.2.2.2.2.2.2.2.2.2.2.2=0))))))))))))))))) (
 a0a (d0e n s.2.2.2.2.1.1 (0:Int)) fun r0 =>
 tif ((!r0)) (
 a0a (d0e n s.2.2.2.2.1.2.1 (0:Int)) fun r1 =>
 tif ((!r1)) (
 a0a (d0e n s.2.2.2.2.1.2.2 (0:Int)) fun r2 =>
 some (!r2)) (
 some false)) (
 some false)) (
 some false)) (
 some false):=by kernel_rfl
theorem o1j (n:Nat) (s:c0i):x0n (n+1) s =
 a0a (x0o n s.2.2.2.1) fun r0 =>
 tif ((decide (r0.2=0))) (
 tif ((decide (r0.1.1=s.2.2.1))) (
 tif ((decide (s.2.2.2.2.2.2.2.2.1.1=s.2.2.1))) (
 a0a (j0n n s.2.2.2.2.2.2 s.1.2.1.1 s.2.2.2.2.2.1) fun r1 =>
 tif (r1) (
 tif ((decide (s.1.2.1.1=0))) (
 none) (
 a0a (d0e n s.2.2.2.2.1.1 (IntKind.wrap .i64 (Int.tdiv s.2.2.1 s.1.2.1.1))) fun r2 =>
 tif ((!r2)) (
 tif ((decide (s.1.2.1.2.1=0))) (
 none) (
 a0a (d0e n s.2.2.2.2.1.2.1 (IntKind.wrap .i64 (Int.tdiv s.2.2.1 s.1.2.1.2.1))) fun r3 =>
 tif ((!r3)) (
 tif ((decide (s.1.2.1.2.2=0))) (
 none) (
 a0a (d0e n s.2.2.2.2.1.2.2 (IntKind.wrap .i64 (Int.tdiv s.2.2.1 s.1.2.1.2.2))) fun r4 =>
 some (!r4))) (
 some false))) (
 some false))) (
 some false)) (
 some false)) (
 some false)) (
 some false):=by kernel_rfl
end Go.Proofs.YtfibfcjepngbmaaGreatDoor
