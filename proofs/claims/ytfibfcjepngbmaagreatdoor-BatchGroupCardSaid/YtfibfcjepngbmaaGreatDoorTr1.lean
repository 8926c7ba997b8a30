/- Trees, printed by program. -/
import Derived.Test.YtfibfcjepngbmaaGreatDoorTr0
import Derived.KernelRfl
set_option linter.unusedVariables false
namespace Go.Proofs.YtfibfcjepngbmaaGreatDoor
open Go.Flat
theorem u0r (n:Nat) (s:a0s) (rows:(List TRow)):q0q (n+1) s rows =
 a0a (y0o n ) fun r0 =>
 tif ((!r0)) (
 some false) (
 a0a (s0z n s) fun r1 =>
 tif ((decide (r1=0))) (
 some true) (
 a0a (s0y n rows) fun r2 =>
 tif ((decide (r2=0))) (
 some true) (
 a0a (o0a n s) fun r3 =>
 tif ((!(decide (r3=0)))) (
 some true) (
 a0a (h0g n rows) fun r4 =>
 a0a (d0r n rows) fun r5 =>
 a0a (d0r n r4) fun r6 =>
 tif ((!(decide ((((List.length r4):Nat):Int)=(((List.length rows):Nat):Int))))) (
 some false) (
 tif ((!((decide (r5.2=0))==(decide (r6.2=0))))) (
 some false) (
 a0a (h0g n r4) fun r7 =>
 a0a (h0v n r7 r4) fun r8 =>
 tif ((!r8)) (
 some false) (
 a0a (j0k n s rows) fun r9 =>
 tif ((!(decide ((((List.length r9.2):Nat):Int)=(((List.length rows):Nat):Int))))) (
 some false) (
 a0a (e0n n a0b (rows,(s,(r4,(r5.2,(r9.1,(r9.2,((((List.length r9.2):Nat):Int),(0,()))))))))) fun r10 =>
 d0a (fun y11 =>
 a0a (j0k n y11.2.1 y11.2.2.1) fun r12 =>
 a0a (e0m n a0b (y11.1,(y11.2.2.1,(y11.2.2.2.1,(y11.2.2.2.2.1,(r12.1,(r12.2,(r12.2,((((List.length r12.2):Nat):Int),(0,())))))))))) fun r13 =>
 d0a (fun y14 =>
 tif ((decide ((((List.length y14.2.2.2.2.2.1):Nat):Int)=(((List.length y14.2.1):Nat):Int)))) (
 a0a (e1b n y14.2.2.2.1 y14.2.2.2.2.1) fun r15 =>
 tif (r15) (
 tif ((decide (y14.2.2.1=0))) (
 some true) (
 some (decide ((((List.length y14.1):Nat):Int)=0)))) (
 some false)) (
 some false)) (fun z16 =>
 some z16) r13) (fun z17 =>
 some z17) r10)))))))):=by kernel_rfl
theorem i0b (n f:Nat) (rows:(List TRow)) (s_:a0s) (g:(List TRow)) (w1:Int) (a:a0s) (s75:(List Int)) (s76:Int) (s77:Int):e0n n (f+1) (rows,s_,g,w1,a,s75,s76,s77,()) =
 tif ((decide (s77<s76))) (
 a0a (at? s75 s77) fun r0 =>
 tif ((!(decide (r0=0)))) (
 some (.inr true)) (
 e0n n f (rows,(s_,(g,(w1,(a,(s75,(s76,((IntKind.wrap .i64 (s77+1)),())))))))))) (
 some (.inl (rows,(s_,(g,(w1,(a,()))))))):=by kernel_rfl
theorem i0a (n f:Nat) (rows:(List TRow)) (g:(List TRow)) (w1:Int) (a:a0s) (b:a0s) (v:(List Int)) (s90:(List Int)) (s91:Int) (s92:Int):e0m n (f+1) (rows,g,w1,a,b,v,s90,s91,s92,()) =
 tif ((decide (s92<s91))) (
 a0a (at? s90 s92) fun r0 =>
 tif ((!(decide (r0=0)))) (
 some (.inr false)) (
 e0m n f (rows,(g,(w1,(a,(b,(v,(s90,(s91,((IntKind.wrap .i64 (s92+1)),()))))))))))) (
 some (.inl (rows,(g,(w1,(a,(b,(v,())))))))):=by kernel_rfl
theorem k1f (n:Nat) (rows:(List TRow)):s0y (n+1) rows =
 tif ((decide ((40:Int)<(((List.length rows):Nat):Int)))) (
 some (0:Int)) (
 a0a (h0y n a0b (rows,((((List.length rows):Nat):Int),(0,())))) fun r0 =>
 d0a (fun y1 =>
 some (1:Int)) (fun z2 =>
 some z2) r0):=by kernel_rfl
theorem o0q (n f:Nat) (s8:(List TRow)) (s9:Int) (s10:Int):h0y n (f+1) (s8,s9,s10,()) =
 tif ((decide (s10<s9))) (
 a0a (at? s8 s10) fun r0 =>
 a0a (j0z n r0.1) fun r1 =>
 tif ((decide (r1=0))) (
 some (.inr (0:Int))) (
 h0y n f (s8,(s9,((IntKind.wrap .i64 (s10+1)),()))))) (
 some (.inl ())):=by kernel_rfl
theorem b1j (n:Nat) (rows:(List TRow)):d0r (n+1) rows =
 tif ((decide ((((List.length rows):Nat):Int)<1))) (
 some (0,6)) (
 tif ((decide ((1024:Int)<(((List.length rows):Nat):Int)))) (
 some (0,6)) (
 a0a (f0t n a0b ([],(rows,((((List.length rows):Nat):Int),(0,()))))) fun r0 =>
 d0a (fun y1 =>
 some (0,0)) (fun z2 =>
 some z2) r0)):=by kernel_rfl
theorem m0b (n f:Nat) (last:(List (List UInt8×Int))) (s17:(List TRow)) (s18:Int) (s19:Int):f0t n (f+1) (last,s17,s18,s19,()) =
 tif ((decide (s19<s18))) (
 a0a (at? s17 s19) fun r0 =>
 a0a (z0g n r0 last) fun r1 =>
 tif ((!(decide (r1.1=0)))) (
 some (.inr (s19,r1.1))) (
 f0t n f (r1.2,(s17,(s18,((IntKind.wrap .i64 (s19+1)),())))))) (
 some (.inl ())):=by kernel_rfl
theorem y0b (n:Nat) (a:(List TRow)) (b:(List TRow)):h0v (n+1) a b =
 tif ((!(decide ((((List.length a):Nat):Int)=(((List.length b):Nat):Int))))) (
 some false) (
 a0a (g0i n a0b (a,(b,((((List.length a):Nat):Int),(0,()))))) fun r0 =>
 d0a (fun y1 =>
 some true) (fun z2 =>
 some z2) r0):=by kernel_rfl
theorem k0i (n f:Nat) (a:(List TRow)) (b:(List TRow)) (s12:Int) (s13:Int):g0i n (f+1) (a,b,s12,s13,()) =
 tif ((decide (s13<s12))) (
 a0a (at? a s13) fun r0 =>
 a0a (at? b s13) fun r1 =>
 a0a (e1v n r0 r1) fun r2 =>
 tif ((!r2)) (
 some (.inr false)) (
 g0i n f (a,(b,(s12,((IntKind.wrap .i64 (s13+1)),())))))) (
 some (.inl ())):=by kernel_rfl
theorem k1g (n:Nat) (s:a0s):s0z (n+1) s =
 tif ((decide ((8:Int)<(((List.length s.2.2.2):Nat):Int)))) (
 some (0:Int)) (
 a0a (i0c n a0b (s.2.2.2,((((List.length s.2.2.2):Nat):Int),(0,())))) fun r0 =>
 d0a (fun y1 =>
 some (1:Int)) (fun z2 =>
 some z2) r0):=by kernel_rfl
theorem o0r (n f:Nat) (s10:(List b0g)) (s11:Int) (s12:Int):i0c n (f+1) (s10,s11,s12,()) =
 tif ((decide (s12<s11))) (
 a0a (at? s10 s12) fun r0 =>
 a0a (t0a n r0) fun r1 =>
 tif ((decide (r1=0))) (
 some (.inr (0:Int))) (
 i0c n f (s10,(s11,((IntKind.wrap .i64 (s12+1)),()))))) (
 some (.inl ())):=by kernel_rfl
theorem t0p (n:Nat) (s:a0s) (rows:(List TRow)):j0k (n+1) s rows =
 tif (((decide ((0:Int)≤(((List.length rows):Nat):Int)))&&((decide ((((List.length rows):Nat):Int)≤(((List.length rows):Nat):Int)))&&(decide (((((List.length rows):Nat):Int)*8)≤140737488355328))))) (
 a0a (c0f n a0b (s,(((0,((0,(0,0)),((0,(0,0)),(0,0)))),(0,(0,[]))),((List.replicate (Int.toNat (((List.length rows):Nat):Int)) (0:Int)),(rows,((((List.length rows):Nat):Int),(0,()))))))) fun r0 =>
 d0a (fun y1 =>
 some (y1.1,y1.2.2.1)) (fun z2 =>
 some z2) r0) (
 none):=by kernel_rfl
theorem c0n (n f:Nat) (s_:a0s) (s4:a0s) (out:(List Int)) (s14:(List TRow)) (s15:Int) (s16:Int):c0f n (f+1) (s_,s4,out,s14,s15,s16,()) =
 tif ((decide (s16<s15))) (
 a0a (at? s14 s16) fun r0 =>
 a0a (j0n n s_ r0.1 r0.2) fun r1 =>
 a0a (at? out s16) fun r2 =>
 a0a ((out)[(Int.toNat s16)]?) fun r3 =>
 tif ((decide (r1.2=0))) (
 c0f n f (r1.1,(s4,((List.set out (Int.toNat s16) r1.2),(s14,(s15,((IntKind.wrap .i64 (s16+1)),()))))))) (
 c0f n f (s_,(s4,((List.set out (Int.toNat s16) r1.2),(s14,(s15,((IntKind.wrap .i64 (s16+1)),())))))))) (
 some (.inl (s_,(s4,(out,()))))):=by kernel_rfl
theorem i1v (n:Nat) (s:a0s):o0a (n+1) s =
 a0a (p0h n s) fun r0 =>
 tif ((!(decide (r0.2=0)))) (
 some (2:Int)) (
 a0a (k0s n r0.1) fun r1 =>
 tif ((!r1)) (
 some (2:Int)) (
 a0a (d0n n r0.1 (fun y2=>e0b n y2.1 r0.1)) fun r3 =>
 tif ((decide ((0:Int)≤r3))) (
 some (2:Int)) (
 some (0:Int)))):=by kernel_rfl
theorem m1j (n:Nat) (a:a0s) (b:a0s):e1b (n+1) a b =
 tif (((decide (a.1.1=b.1.1))&&((decide (a.1.2.1.1=b.1.2.1.1))&&((decide (a.1.2.1.2.1=b.1.2.1.2.1))&&((decide (a.1.2.1.2.2=b.1.2.1.2.2))&&((decide (a.1.2.2.1.1=b.1.2.2.1.1))&&((decide (a.1.2.2.1.2.1=b.1.2.2.1.2.1))&&((decide (a.1.2.2.1.2.2=b.1.2.2.1.2.2))&&((decide (a.1.2.2.2.1=b.1.2.2.2.1))&&(decide (a.1.2.2.2.2=b.1.2.2.2.2))))))))))) (
 tif ((decide (a.2.1=b.2.1))) (
 tif ((decide (a.2.2.1=b.2.2.1))) (
 a0a (c0h n a.2.2.2 b.2.2.2 (fun y0=>e0r n y0.1 y0.2.1)) fun r1 =>
 some r1) (
 some false)) (
 some false)) (
 some false):=by kernel_rfl
theorem v0s (n:Nat) (l:(List (List UInt8×List UInt8))):j0z (n+1) l =
 a0a (e0s n a0b (l,((((List.length l):Nat):Int),(0,())))) fun r0 =>
 d0a (fun y1 =>
 some (1:Int)) (fun z2 =>
 some z2) r0:=by kernel_rfl
theorem g0l (n f:Nat) (s5:(List (List UInt8×List UInt8))) (s6:Int) (s7:Int):e0s n (f+1) (s5,s6,s7,()) =
 tif ((decide (s7<s6))) (
 a0a (at? s5 s7) fun r0 =>
 tif ((decide (s7=40))) (
 some (.inr (0:Int))) (
 tif ((decide ((1000:Int)<(((List.length r0.1):Nat):Int)))) (
 some (.inr (0:Int))) (
 tif ((decide ((1000:Int)<(((List.length r0.2):Nat):Int)))) (
 some (.inr (0:Int))) (
 e0s n f (s5,(s6,((IntKind.wrap .i64 (s7+1)),()))))))) (
 some (.inl ())):=by kernel_rfl
theorem l1n (n:Nat) (x:TRow) (last:(List (List UInt8×Int))):z0g (n+1) x last =
 a0a (g0z n x.1) fun r0 =>
 tif ((!(decide (r0=0)))) (
 some (r0,last)) (
 a0a (d0c n x.2) fun r1 =>
 tif ((!(decide (r1=0)))) (
 some (r1,last)) (
 a0a (t0o n x.1) fun r2 =>
 tif ((mgetI .str .i64 last r2).2) (
 tif ((decide (x.2.1≤(mgetI .str .i64 last r2).1))) (
 some (9,last)) (
 some (0,(mput .str (.int .i64) last r2 x.2.1)))) (
 some (0,(mput .str (.int .i64) last r2 x.2.1))))):=by kernel_rfl
theorem n1o (n:Nat) (a:(List (List UInt8×List UInt8))) (b:(List (List UInt8×List UInt8))):e1x (n+1) a b =
 tif ((!(decide ((((List.length a):Nat):Int)=(((List.length b):Nat):Int))))) (
 some false) (
 a0a (j0x n a0b (a,(b,((((List.length a):Nat):Int),(0,()))))) fun r0 =>
 d0a (fun y1 =>
 some true) (fun z2 =>
 some z2) r0):=by kernel_rfl
theorem h0m (n f:Nat) (a:(List (List UInt8×List UInt8))) (b:(List (List UInt8×List UInt8))) (s12:Int) (s13:Int):j0x n (f+1) (a,b,s12,s13,()) =
 tif ((decide (s13<s12))) (
 a0a (at? a s13) fun r0 =>
 a0a (at? b s13) fun r1 =>
 tif ((!((r0.1==r1.1)&&(r0.2==r1.2)))) (
 some (.inr false)) (
 j0x n f (a,(b,(s12,((IntKind.wrap .i64 (s13+1)),())))))) (
 some (.inl ())):=by kernel_rfl
theorem l1o (n:Nat) (l:(List (List UInt8×List UInt8))):t0o (n+1) l =
 a0a (i0g n a0b ([],(l,((((List.length l):Nat):Int),(0,()))))) fun r0 =>
 d0a (fun y1 =>
 a0a (g0s n y1.1) fun r2 =>
 some r2.1) (fun z3 =>
 some z3) r0:=by kernel_rfl
theorem o0z (n f:Nat) (b:List UInt8) (s8:(List (List UInt8×List UInt8))) (s9:Int) (s10:Int):i0g n (f+1) (b,s8,s9,s10,()) =
 tif ((decide (s10<s9))) (
 a0a (at? s8 s10) fun r0 =>
 a0a (e0x n a0b (b,(s8,(s9,(s10,(r0,(0,()))))))) fun r1 =>
 d0a (fun y2 =>
 i0g n f (y2.1,(y2.2.1,(y2.2.2.1,((IntKind.wrap .i64 (y2.2.2.2.1+1)),()))))) (fun z3 =>
 some (.inr z3)) r1) (
 some (.inl (b,()))):=by kernel_rfl
theorem k0d (n f:Nat) (b:List UInt8) (s8:(List (List UInt8×List UInt8))) (s9:Int) (s10:Int) (s18:(List UInt8×List UInt8)) (s19:Int):e0x n (f+1) (b,s8,s9,s10,s18,s19,()) =
 tif ((decide (s19<2))) (
 tif ((decide (s19=0))) (
 a0a (strconv_Itoa n (((List.length s18.1):Nat):Int)) fun r0 =>
 a0a (a0p n b r0) fun r1 =>
 a0a (b0m n r1.2.2 (58:Int)) fun r2 =>
 a0a (a0p n r2.2 s18.1) fun r3 =>
 e0x n f (r3.2.2,(s8,(s9,(s10,(s18,((IntKind.wrap .i64 (s19+1)),()))))))) (
 tif ((decide (s19=1))) (
 a0a (strconv_Itoa n (((List.length s18.2):Nat):Int)) fun r4 =>
 a0a (a0p n b r4) fun r5 =>
 a0a (b0m n r5.2.2 (58:Int)) fun r6 =>
 a0a (a0p n r6.2 s18.2) fun r7 =>
 e0x n f (r7.2.2,(s8,(s9,(s10,(s18,((IntKind.wrap .i64 (s19+1)),()))))))) (
 none))) (
 some (.inl (b,(s8,(s9,(s10,())))))):=by kernel_rfl
theorem n1m (n:Nat) (a:TRow) (b:TRow):e1v (n+1) a b =
 a0a (e1x n a.1 b.1) fun r0 =>
 tif (r0) (
 some ((decide (a.2.1=b.2.1))&&((decide (a.2.2.1=b.2.2.1))&&((decide (a.2.2.2.1=b.2.2.2.1))&&(a.2.2.2.2==b.2.2.2.2))))) (
 some false):=by kernel_rfl
theorem w0f (n:Nat) (slices:(List (List TRow))):m0r (n+1) slices =
 a0a (e0f n a0b (slices,(0,((((List.length slices):Nat):Int),(0,()))))) fun r0 =>
 d0a (fun y1 =>
 a0a (r0a n [] y1.2.1) fun r2 =>
 a0a (d0t n a0b (r2,(y1.1,((((List.length y1.1):Nat):Int),(0,()))))) fun r3 =>
 d0a (fun y4 =>
 some y4.1) (fun z5 =>
 some z5) r3) (fun z6 =>
 some z6) r0:=by kernel_rfl
theorem j0s (n f:Nat) (slices:(List (List TRow))) (size:Int) (s10:Int) (s11:Int):e0f n (f+1) (slices,size,s10,s11,()) =
 tif ((decide (s11<s10))) (
 a0a (at? slices s11) fun r0 =>
 a0a ((slices)[(Int.toNat s11)]?) fun r1 =>
 tif ((decide ((IntKind.wrap .i64 (size+(((List.length r1):Nat):Int)))<0))) (
 none) (
 e0f n f ((List.set slices (Int.toNat s11) r1),((IntKind.wrap .i64 (size+(((List.length r1):Nat):Int))),(s10,((IntKind.wrap .i64 (s11+1)),())))))) (
 some (.inl (slices,(size,())))):=by kernel_rfl
theorem i0p (n f:Nat) (newslice:(List TRow)) (s25:(List (List TRow))) (s26:Int) (s27:Int):d0t n (f+1) (newslice,s25,s26,s27,()) =
 tif ((decide (s27<s26))) (
 a0a (at? s25 s27) fun r0 =>
 a0a ((s25)[(Int.toNat s27)]?) fun r1 =>
 tif ((decide ((((List.length newslice)+(List.length r1))*56)≤140737488355328))) (
 d0t n f ((newslice++r1),((List.set s25 (Int.toNat s27) r1),(s26,((IntKind.wrap .i64 (s27+1)),()))))) (
 none)) (
 some (.inl (newslice,()))):=by kernel_rfl
theorem t0k (n:Nat) (c:b0y):f0k (n+1) c =
 a0a (e0w n c.1 (1:Int) (4096:Int)) fun r0 =>
 tif (r0) (
 a0a (e0w n c.2.2.2.1 (1:Int) (65536:Int)) fun r1 =>
 tif (r1) (
 a0a (e0w n c.2.2.2.2 (1:Int) (8192:Int)) fun r2 =>
 tif (r2) (
 a0a (g0m n c.2.1.1 (1:Int) (1099511627776:Int)) fun r3 =>
 tif (r3) (
 a0a (e0w n c.2.2.1.1 (1:Int) (4096:Int)) fun r4 =>
 tif (r4) (
 a0a (g0m n c.2.1.2.1 (1:Int) (1099511627776:Int)) fun r5 =>
 tif (r5) (
 a0a (e0w n c.2.2.1.2.1 (1:Int) (4096:Int)) fun r6 =>
 tif (r6) (
 a0a (g0m n c.2.1.2.2 (1:Int) (1099511627776:Int)) fun r7 =>
 tif (r7) (
 a0a (e0w n c.2.2.1.2.2 (1:Int) (4096:Int)) fun r8 =>
 tif (r8) (
 tif ((decide (c.2.1.1=0))) (
 none) (
 tif ((decide ((Int.tmod c.2.1.2.1 c.2.1.1)=0))) (
 tif ((decide (c.2.1.1=0))) (
 none) (
 tif ((decide ((IntKind.wrap .i64 (Int.tdiv c.2.1.2.1 c.2.1.1))≤c.2.2.1.1))) (
 tif ((decide (c.2.1.2.1=0))) (
 none) (
 tif ((decide ((Int.tmod c.2.1.2.2 c.2.1.2.1)=0))) (
 tif ((decide (c.2.1.2.1=0))) (
 none) (
 tif ((decide ((IntKind.wrap .i64 (Int.tdiv c.2.1.2.2 c.2.1.2.1))≤c.2.2.1.2.1))) (
 tif ((!(decide ((IntKind.wrap .i64 (Int.tdiv c.2.1.2.2 c.2.1.2.1))≤c.2.2.1.2.1)))) (
 some (2:Int)) (
 a0a (j0i n c) fun r9 =>
 tif ((decide (c.2.2.2.2≤r9))) (
 some (2:Int)) (
 some (0:Int)))) (
 tif ((!(decide ((IntKind.wrap .i64 (Int.tdiv c.2.1.2.2 c.2.1.2.1))≤c.2.2.1.2.1)))) (
 some (2:Int)) (
 a0a (j0i n c) fun r10 =>
 tif ((decide (c.2.2.2.2≤r10))) (
 some (2:Int)) (
 some (0:Int)))))) (
 some (2:Int)))) (
 tif ((!(decide ((IntKind.wrap .i64 (Int.tdiv c.2.1.2.1 c.2.1.1))≤c.2.2.1.1)))) (
 some (2:Int)) (
 a0a (j0i n c) fun r11 =>
 tif ((decide (c.2.2.2.2≤r11))) (
 some (2:Int)) (
 some (0:Int)))))) (
 some (2:Int)))) (
 tif ((!r8)) (
 some (2:Int)) (
 a0a (j0i n c) fun r12 =>
 tif ((decide (c.2.2.2.2≤r12))) (
 some (2:Int)) (
 some (0:Int))))) (
 some (2:Int))) (
 some (2:Int))) (
 some (2:Int))) (
 some (2:Int))) (
 some (2:Int))) (
 some (2:Int))) (
 some (2:Int))) (
 some (2:Int)):=by kernel_rfl
theorem k1h (n:Nat) (s:b0g):t0a (n+1) s =
 a0a (j0z n s.1) fun r0 =>
 tif ((decide (r0=0))) (
 some (0:Int)) (
 tif ((decide ((60:Int)<(((List.length s.2.2.1.2.2):Nat):Int)))) (
 some (0:Int)) (
 a0a (y0p n s.2.2.2.1) fun r1 =>
 some r1)):=by kernel_rfl
theorem i1e (n:Nat) (s:a0s) (l:(List (List UInt8×List UInt8))) (e:a0w):j0n (n+1) s l e =
 a0a (r0d n s l e) fun r0 =>
 tif ((!(decide (r0.2.2=0)))) (
 some (((0,((0,(0,0)),((0,(0,0)),(0,0)))),(0,(0,[]))),r0.2.2)) (
 a0a (x0d n s r0.1 r0.2.1 l) fun r1 =>
 tif ((!(decide (r1.2=0)))) (
 some (((0,((0,(0,0)),((0,(0,0)),(0,0)))),(0,(0,[]))),r1.2)) (
 a0a (u0e n s.1 r1.1 e) fun r2 =>
 tif ((!(decide (r2.2=0)))) (
 some (((0,((0,(0,0)),((0,(0,0)),(0,0)))),(0,(0,[]))),r2.2)) (
 a0a (j0t n s.2.2.2) fun r3 =>
 a0a (at? r3 r0.1) fun r4 =>
 a0a ((r3)[(Int.toNat r0.1)]?) fun r5 =>
 some ((s.1,(s.2.1,(s.2.2.1,(List.set r3 (Int.toNat r0.1) r2.1)))),0)))):=by kernel_rfl
theorem m1i (n:Nat) (s:a0s):p0h (n+1) s =
 a0a (f0k n s.1) fun r0 =>
 tif ((!(decide (r0=0)))) (
 some (((0,((0,(0,0)),((0,(0,0)),(0,0)))),(0,(0,[]))),2)) (
 tif ((!(decide ((((List.length s.2.2.2):Nat):Int)=s.1.2.2.2.1)))) (
 some (((0,((0,(0,0)),((0,(0,0)),(0,0)))),(0,(0,[]))),2)) (
 some (s,0))):=by kernel_rfl
theorem t0z (n:Nat) (v:a0s):k0s (n+1) v =
 a0a (s0b n v.2.1) fun r0 =>
 tif (r0) (
 tif ((decide (v.2.2.1=((-1):Int)))) (
 some (decide (v.2.2.1≤v.2.1))) (
 a0a (s0b n v.2.2.1) fun r1 =>
 tif (r1) (
 some (decide (v.2.2.1≤v.2.1))) (
 some false))) (
 some false):=by kernel_rfl
theorem t0x (n:Nat) (v:a0s) (is:((Int×Unit)→Option Bool)):d0n (n+1) v is =
 a0a (c0c n a0b (is,((((List.length v.2.2.2):Nat):Int),(0,())))) fun r0 =>
 d0a (fun y1 =>
 some ((-1):Int)) (fun z2 =>
 some z2) r0:=by kernel_rfl
theorem i0l (n f:Nat) (is:((Int×Unit)→Option Bool)) (s9:Int) (s10:Int):c0c n (f+1) (is,s9,s10,()) =
 tif ((decide (s10<s9))) (
 a0a (is (s10,())) fun r0 =>
 tif (r0) (
 some (.inr s10)) (
 c0c n f (is,(s9,((IntKind.wrap .i64 (s10+1)),()))))) (
 some (.inl ())):=by kernel_rfl
theorem z0t (n:Nat) (i:Int) (p1:a0s):e0b (n+1) i p1 =
 a0a (k0r n p1 i) fun r0 =>
 some (!r0):=by kernel_rfl
theorem t0w (n:Nat) (v:a0s) (i:Int):k0r (n+1) v i =
 a0a (at? v.2.2.2 i) fun r0 =>
 a0a (s0c n r0) fun r1 =>
 tif (r1) (
 some true) (
 a0a (o0e n v.1 r0) fun r2 =>
 tif ((decide (r2=0))) (
 tif ((decide ((0:Int)≤r0.2.1))) (
 a0a (i0s n v) fun r3 =>
 tif ((decide (r0.2.1<(IntKind.wrap .i64 (r3+v.1.2.1.1))))) (
 a0a (m0n n v i) fun r4 =>
 some (!r4)) (
 some false)) (
 some false)) (
 some false)):=by kernel_rfl
theorem e0e (n:Nat) (s1:(List b0g)) (s2:(List b0g)) (eq:((b0g×(b0g×Unit))→Option Bool)):c0h (n+1) s1 s2 eq =
 tif ((!(decide ((((List.length s1):Nat):Int)=(((List.length s2):Nat):Int))))) (
 some false) (
 a0a (b0c n a0b (s2,(eq,(s1,((((List.length s1):Nat):Int),(0,())))))) fun r0 =>
 d0a (fun y1 =>
 some true) (fun z2 =>
 some z2) r0):=by kernel_rfl
theorem b0s (n f:Nat) (s2:(List b0g)) (eq:((b0g×(b0g×Unit))→Option Bool)) (s15:(List b0g)) (s16:Int) (s17:Int):b0c n (f+1) (s2,eq,s15,s16,s17,()) =
 tif ((decide (s17<s16))) (
 a0a (at? s15 s17) fun r0 =>
 a0a (at? s2 s17) fun r1 =>
 a0a (eq (r0,(r1,()))) fun r2 =>
 tif ((!r2)) (
 some (.inr false)) (
 b0c n f (s2,(eq,(s15,(s16,((IntKind.wrap .i64 (s17+1)),()))))))) (
 some (.inl ())):=by kernel_rfl
theorem z0w (n:Nat) (a:b0g) (b:b0g):e0r (n+1) a b =
 a0a (l0q n a.1 b.1) fun r0 =>
 tif (r0) (
 tif ((decide (a.2.1=b.2.1))) (
 a0a (p1x n a.2.2.1 b.2.2.1) fun r1 =>
 tif (r1) (
 tif (((decide (a.2.2.2.2.1=b.2.2.2.2.1))&&((decide (a.2.2.2.2.2.1=b.2.2.2.2.2.1))&&((decide (a.2.2.2.2.2.2.1.1=b.2.2.2.2.2.2.1.1))&&((decide (a.2.2.2.2.2.2.1.2.1=b.2.2.2.2.2.2.1.2.1))&&((decide (a.2.2.2.2.2.2.1.2.2.1=b.2.2.2.2.2.2.1.2.2.1))&&((a.2.2.2.2.2.2.1.2.2.2==b.2.2.2.2.2.2.1.2.2.2)&&((decide (a.2.2.2.2.2.2.2.1.1=b.2.2.2.2.2.2.2.1.1))&&((decide (a.2.2.2.2.2.2.2.1.2.1=b.2.2.2.2.2.2.2.1.2.1))&&((decide (a.2.2.2.2.2.2.2.1.2.2.1=b.2.2.2.2.2.2.2.1.2.2.1))&&((a.2.2.2.2.2.2.2.1.2.2.2==b.2.2.2.2.2.2.2.1.2.2.2)&&((decide (a.2.2.2.2.2.2.2.2.1.1=b.2.2.2.2.2.2.2.2.1.1))&&((decide (a.2.2.2.2.2.2.2.2.1.2=b.2.2.2.2.2.2.2.2.1.2))&&((decide (a.2.2.2.2.2.2.2.2.2.1=b.2.2.2.2.2.2.2.2.2.1))&&((decide (a.2.2.2.2.2.2.2.2.2.2.1=b.2.2.2.2.2.2.2.2.2.2.1))&&(decide (a.2.2.2.2.2.2.2.2.2.2.2=b.2.2.2.2.2.2.2.2.2.2.2))))))))))))))))) (
 a0a (g0f n a.2.2.2.1.1 b.2.2.2.1.1) fun r2 =>
 tif (r2) (
 a0a (g0f n a.2.2.2.1.2.1 b.2.2.2.1.2.1) fun r3 =>
 tif (r3) (
 a0a (g0f n a.2.2.2.1.2.2 b.2.2.2.1.2.2) fun r4 =>
 some r4) (
 some false)) (
 some false)) (
 some false)) (
 some false)) (
 some false)) (
 some false):=by kernel_rfl
theorem a1u (n:Nat) (l:(List (List UInt8×List UInt8))):g0z (n+1) l =
 tif ((decide ((((List.length l):Nat):Int)=0))) (
 some (8:Int)) (
 tif ((decide ((16:Int)<(((List.length l):Nat):Int)))) (
 some (8:Int)) (
 a0a (e0i n a0b (l,(256,(l,((((List.length l):Nat):Int),(0,())))))) fun r0 =>
 d0a (fun y1 =>
 some (0:Int)) (fun z2 =>
 some z2) r0)):=by kernel_rfl
theorem l0r (n f:Nat) (l:(List (List UInt8×List UInt8))) (left:Int) (s14:(List (List UInt8×List UInt8))) (s15:Int) (s16:Int):e0i n (f+1) (l,left,s14,s15,s16,()) =
 tif ((decide (s16<s15))) (
 a0a (at? s14 s16) fun r0 =>
 a0a (u0q n r0.1) fun r1 =>
 tif ((!r1)) (
 some (.inr (8:Int))) (
 tif ((decide ((128:Int)<(((List.length r0.2):Nat):Int)))) (
 some (.inr (8:Int))) (
 tif ((decide ((IntKind.wrap .i64 (left-(IntKind.wrap .i64 ((((List.length r0.1):Nat):Int)+(((List.length r0.2):Nat):Int)))))<0))) (
 some (.inr (8:Int))) (
 tif ((decide ((0:Int)<s16))) (
 a0a (at? l (IntKind.wrap .i64 (s16-1))) fun r2 =>
 tif ((!(Go.Op.bytesLess r2.1 r0.1))) (
 some (.inr (8:Int))) (
 e0i n f (l,((IntKind.wrap .i64 (left-(IntKind.wrap .i64 ((((List.length r0.1):Nat):Int)+(((List.length r0.2):Nat):Int))))),(s14,(s15,((IntKind.wrap .i64 (s16+1)),()))))))) (
 e0i n f (l,((IntKind.wrap .i64 (left-(IntKind.wrap .i64 ((((List.length r0.1):Nat):Int)+(((List.length r0.2):Nat):Int))))),(s14,(s15,((IntKind.wrap .i64 (s16+1)),())))))))))) (
 some (.inl ())):=by kernel_rfl
theorem b1d (n:Nat) (e:a0w):d0c (n+1) e =
 tif ((decide (e.1<0))) (
 some (2:Int)) (
 tif ((decide ((35184372088832:Int)≤e.1))) (
 some (2:Int)) (
 tif ((decide (e.2.2.1<0))) (
 some (2:Int)) (
 tif ((decide (e.1<e.2.2.1))) (
 some (2:Int)) (
 tif (e.2.2.2) (
 tif ((!((decide (e.1=e.1))&&((decide (e.2.1=0))&&((decide (e.2.2.1=0))&&(e.2.2.2==true)))))) (
 some (2:Int)) (
 some (0:Int))) (
 some (0:Int)))))):=by kernel_rfl
theorem x0p (n:Nat) (i:Int):strconv_Itoa (n+1) i =
 a0a (s0d n i) fun r0 =>
 some r0:=by kernel_rfl
theorem z0u (n:Nat) (x0:List TRow) (x1:Int):r0a (n+1) x0 x1=v0t 56 x0 x1:=by
    have h:r0a (n+1) x0 x1=Option.bind (v0t 56 x0 x1) (fun z=>some z):=by kernel_rfl
    rw[h];cases v0t 56 x0 x1<;>rfl
theorem b1g (n:Nat) (n_:Int) (low:Int) (high:Int):e0w (n+1) n_ low high =
 tif ((decide (low≤n_))) (
 some (decide (n_≤high))) (
 some false):=by kernel_rfl
theorem w0l (n:Nat) (n_:Int) (low:Int) (high:Int):g0m (n+1) n_ low high =
 tif ((decide (low≤n_))) (
 some (decide (n_≤high))) (
 some false):=by kernel_rfl
theorem h1j (n:Nat) (c:b0y):j0i (n+1) c =
 a0a (j0j n c.1 (16:Int)) fun r0 =>
 a0a (j0j n c.2.2.1.1 (4:Int)) fun r1 =>
 a0a (j0j n c.2.2.1.2.1 (4:Int)) fun r2 =>
 a0a (j0j n c.2.2.1.2.2 (4:Int)) fun r3 =>
 some (IntKind.wrap .i64 ((IntKind.wrap .i64 ((IntKind.wrap .i64 ((IntKind.wrap .i64 ((1:Int)+r0))+r1))+r2))+r3)):=by kernel_rfl
theorem k1i (n:Nat) (s:((List a0c)×((List a0c)×(List a0c)))):y0p (n+1) s =
 a0a (d0j n a0b (s,(0,()))) fun r0 =>
 d0a (fun y1 =>
 some (1:Int)) (fun z2 =>
 some z2) r0:=by kernel_rfl
theorem g0k (n f:Nat) (s_:((List a0c)×((List a0c)×(List a0c)))) (s4:Int):d0j n (f+1) (s_,s4,()) =
 tif ((decide (s4<3))) (
 tif ((decide (s4=0))) (
 tif ((decide ((40:Int)<(((List.length s_.1):Nat):Int)))) (
 some (.inr (0:Int))) (
 d0j n f (s_,((IntKind.wrap .i64 (s4+1)),())))) (
 tif ((decide (s4=1))) (
 tif ((decide ((40:Int)<(((List.length s_.2.1):Nat):Int)))) (
 some (.inr (0:Int))) (
 d0j n f (s_,((IntKind.wrap .i64 (s4+1)),())))) (
 tif ((decide (s4=2))) (
 tif ((decide ((40:Int)<(((List.length s_.2.2):Nat):Int)))) (
 some (.inr (0:Int))) (
 d0j n f (s_,((IntKind.wrap .i64 (s4+1)),())))) (
 none)))) (
 some (.inl ())):=by kernel_rfl
theorem z0y (n:Nat) (s:a0s) (l:(List (List UInt8×List UInt8))) (e:a0w):r0d (n+1) s l e =
 a0a (o0a n s) fun r0 =>
 tif ((!(decide (r0=0)))) (
 some (0,(false,r0))) (
 a0a (g0z n l) fun r1 =>
 tif ((!(decide (r1=0)))) (
 some (0,(false,r1))) (
 a0a (d0c n e) fun r2 =>
 tif ((!(decide (r2=0)))) (
 some (0,(false,r2))) (
 a0a (u0f n s) fun r3 =>
 a0a (e1f n s l) fun r4 =>
 tif ((decide (e.1<r3.1))) (
 some (0,(false,9))) (
 tif ((decide (r3.2≤e.1))) (
 some (0,(false,9))) (
 tif ((decide (r4.2=0))) (
 a0a (at? s.2.2.2 r4.1) fun r5 =>
 tif ((decide (e.1≤r5.2.1))) (
 some (0,(false,9))) (
 tif ((decide (r4.2=0))) (
 some (r4.1,(false,0))) (
 tif (e.2.2.2) (
 some (0,(false,3))) (
 a0a (w0n n s) fun r6 =>
 some (r6.1,((decide (r6.2=0)),r6.2)))))) (
 tif ((decide (r4.2=0))) (
 some (r4.1,(false,0))) (
 tif (e.2.2.2) (
 some (0,(false,3))) (
 a0a (w0n n s) fun r7 =>
 some (r7.1,((decide (r7.2=0)),r7.2)))))))))):=by kernel_rfl
theorem z0q (n:Nat) (s:a0s) (i:Int) (fresh:Bool) (l:(List (List UInt8×List UInt8))):x0d (n+1) s i fresh l =
 tif (fresh) (
 a0a (p0o n s.1 l) fun r0 =>
 some r0) (
 a0a (at? s.2.2.2 i) fun r1 =>
 some (r1,0)):=by kernel_rfl
theorem e1m (n:Nat) (c:b0y) (s:b0g) (e:a0w):u0e (n+1) c s e =
 a0a (m0t n c s) fun r0 =>
 y0j (r0.1) (
 tif ((!(decide (r0.2=0)))) (
 some (([],(0,((0,(0,[])),(([],([],[])),(0,(0,((0,(0,(0,false))),((0,(0,(0,false))),((0,0),(0,(0,0))))))))))),2)) (
 a0a (d0c n e) fun r1 =>
 tif ((!(decide (r1=0)))) (
 some (([],(0,((0,(0,[])),(([],([],[])),(0,(0,((0,(0,(0,false))),((0,(0,(0,false))),((0,0),(0,(0,0))))))))))),2)) (
 tif ((decide (e.1≤s.2.1))) (
 some (([],(0,((0,(0,[])),(([],([],[])),(0,(0,((0,(0,(0,false))),((0,(0,(0,false))),((0,0),(0,(0,0))))))))))),9)) (
 tif ((decide (c.2.1.1=0))) (
 none) (
 none))))) fun r2 =>
 tif ((!(decide (r0.2=0)))) (
 some (([],(0,((0,(0,[])),(([],([],[])),(0,(0,((0,(0,(0,false))),((0,(0,(0,false))),((0,0),(0,(0,0))))))))))),2)) (
 a0a (d0c n e) fun r3 =>
 tif ((!(decide (r3=0)))) (
 some (([],(0,((0,(0,[])),(([],([],[])),(0,(0,((0,(0,(0,false))),((0,(0,(0,false))),((0,0),(0,(0,0))))))))))),2)) (
 tif ((decide (e.1≤s.2.1))) (
 some (([],(0,((0,(0,[])),(([],([],[])),(0,(0,((0,(0,(0,false))),((0,(0,(0,false))),((0,0),(0,(0,0))))))))))),9)) (
 tif ((decide (c.2.1.1=0))) (
 none) (
 a0a (e1h n r2 (IntKind.wrap .i64 (Int.tdiv e.1 c.2.1.1))) fun r4 =>
 tif ((!(decide (r4.1=0)))) (
 some (([],(0,((0,(0,[])),(([],([],[])),(0,(0,((0,(0,(0,false))),((0,(0,(0,false))),((0,0),(0,(0,0))))))))))),r4.1)) (
 a0a (w1x n r4.2 (IntKind.wrap .i64 (Int.tdiv e.1 c.2.1.1)) e) fun r5 =>
 tif ((!(decide (r5.1=0)))) (
 some (([],(0,((0,(0,[])),(([],([],[])),(0,(0,((0,(0,(0,false))),((0,(0,(0,false))),((0,0),(0,(0,0))))))))))),r5.1)) (
 some (r5.2.2,0))))))):=by kernel_rfl
theorem s0m (n:Nat) (s:(List b0g)):j0t (n+1) s =
 tif ((decide ((List.length s)=0))) (
 both (
 some []) (
 tif ((decide (((0+(List.length s))*264)≤140737488355328))) (
 some ([]++s)) (
 none))) (
 tif ((decide (((0+(List.length s))*264)≤140737488355328))) (
 some ([]++s)) (
 none)):=by kernel_rfl
theorem m1h (n:Nat) (t:Int):s0b (n+1) t =
 tif ((decide ((0:Int)≤t))) (
 some (decide (t<35184372088832))) (
 some false):=by kernel_rfl
theorem i1u (n:Nat) (s:b0g):s0c (n+1) s =
 a0a (e0r n s ([],(0,((0,(0,[])),(([],([],[])),(0,(0,((0,(0,(0,false))),((0,(0,(0,false))),((0,0),(0,(0,0)))))))))))) fun r0 =>
 some r0:=by kernel_rfl
theorem x0x (n:Nat) (c:b0y) (s:b0g):o0e (n+1) c s =
 a0a (m0t n c s) fun r0 =>
 y0j (r0.1) (
 some r0.2) fun r1 =>
 some r0.2:=by kernel_rfl
theorem w0c (n:Nat) (v:a0s):i0s (n+1) v =
 tif ((decide (v.1.2.1.1=0))) (
 none) (
 some (IntKind.wrap .i64 (v.2.1-(Int.tmod v.2.1 v.1.2.1.1)))):=by kernel_rfl
theorem w0b (n:Nat) (v:a0s) (i:Int):m0n (n+1) v i =
 a0a (d0n n v (fun y0=>e0q n y0.1 i v)) fun r1 =>
 tif ((decide (r1<i))) (
 a0a (e0h n v i) fun r2 =>
 some r2) (
 some false):=by kernel_rfl
theorem s0x (n:Nat) (a:(List (List UInt8×List UInt8))) (b:(List (List UInt8×List UInt8))):l0q (n+1) a b =
 a0a (k0v n a b) fun r0 =>
 some r0:=by kernel_rfl
theorem n1h (n:Nat) (a:(Int×(Int×(List a0w)))) (b:(Int×(Int×(List a0w)))):p1x (n+1) a b =
 tif ((decide (a.1=b.1))) (
 tif ((decide (a.2.1=b.2.1))) (
 a0a (k0w n a.2.2 b.2.2) fun r0 =>
 some r0) (
 some false)) (
 some false):=by kernel_rfl
theorem w0e (n:Nat) (s1:(List a0c)) (s2:(List a0c)):g0f (n+1) s1 s2 =
 tif ((!(decide ((((List.length s1):Nat):Int)=(((List.length s2):Nat):Int))))) (
 some false) (
 a0a (f0u n a0b (s1,(s2,((((List.length s1):Nat):Int),(0,()))))) fun r0 =>
 d0a (fun y1 =>
 some true) (fun z2 =>
 some z2) r0):=by kernel_rfl
theorem j0r (n f:Nat) (s1:(List a0c)) (s2:(List a0c)) (s12:Int) (s13:Int):f0u n (f+1) (s1,s2,s12,s13,()) =
 tif ((decide (s13<s12))) (
 a0a (at? s1 s13) fun r0 =>
 a0a (at? s2 s13) fun r1 =>
 tif ((!((decide (r0.1=r1.1))&&((decide (r0.2.1=r1.2.1))&&((decide (r0.2.2.1.1=r1.2.2.1.1))&&((decide (r0.2.2.1.2.1=r1.2.2.1.2.1))&&((decide (r0.2.2.1.2.2.1=r1.2.2.1.2.2.1))&&((r0.2.2.1.2.2.2==r1.2.2.1.2.2.2)&&((decide (r0.2.2.2.1.1=r1.2.2.2.1.1))&&((decide (r0.2.2.2.1.2.1=r1.2.2.2.1.2.1))&&((decide (r0.2.2.2.1.2.2.1=r1.2.2.2.1.2.2.1))&&((r0.2.2.2.1.2.2.2==r1.2.2.2.1.2.2.2)&&((decide (r0.2.2.2.2.1.1=r1.2.2.2.2.1.1))&&((decide (r0.2.2.2.2.1.2=r1.2.2.2.2.1.2))&&((decide (r0.2.2.2.2.2.1=r1.2.2.2.2.2.1))&&((decide (r0.2.2.2.2.2.2.1=r1.2.2.2.2.2.2.1))&&(decide (r0.2.2.2.2.2.2.2=r1.2.2.2.2.2.2.2)))))))))))))))))) (
 some (.inr false)) (
 f0u n f (s1,(s2,(s12,((IntKind.wrap .i64 (s13+1)),())))))) (
 some (.inl ())):=by kernel_rfl
theorem t0y (n:Nat) (v:a0s) (i:Int):e0h (n+1) v i =
 a0a (at? v.2.2.2 i) fun r0 =>
 a0a (s0c n r0) fun r1 =>
 tif ((!r1)) (
 tif ((decide (v.2.2.1=((-1):Int)))) (
 some true) (
 a0a (r0b n v.1 r0.2.1 v.2.2.1) fun r2 =>
 some (!r2))) (
 some false):=by kernel_rfl
theorem f1x (n:Nat) (s:List UInt8):u0q (n+1) s =
 tif ((s==[])) (
 some false) (
 tif ((decide ((64:Int)<(((List.length s):Nat):Int)))) (
 some false) (
 a0a (at? s (0:Int)) fun r0 =>
 a0a (n0g n (((UInt8.toNat r0):Nat):Int)) fun r1 =>
 tif (r1) (
 some false) (
 a0a (f0n n (List.map (fun y2=>(((UInt8.toNat y2):Nat):Int)) s) (fun y3=>o0o n y3.1)) fun r4 =>
 some (!r4)))):=by kernel_rfl
theorem w0d (n:Nat) (i:Int):s0d (n+1) i =
 a0a (l0e n i (10:Int)) fun r0 =>
 some r0:=by kernel_rfl
theorem h1l (n:Nat) (n_:Int) (by_:Int):j0j (n+1) n_ by_ =
 tif ((decide (by_=0))) (
 none) (
 some (IntKind.wrap .i64 (Int.tdiv (IntKind.wrap .i64 ((IntKind.wrap .i64 (n_+by_))-1)) by_))):=by kernel_rfl
theorem e1p (n:Nat) (s:a0s):u0f (n+1) s =
 a0a (o0a n s) fun r0 =>
 tif ((!(decide (r0=0)))) (
 some (0,0)) (
 a0a (e1d n s) fun r1 =>
 some (r1,(if (35184372088832:Int)<(IntKind.wrap .i64 (r1+s.1.2.1.1)) then (35184372088832:Int) else (IntKind.wrap .i64 (r1+s.1.2.1.1))))):=by kernel_rfl
theorem m1m (n:Nat) (s:a0s) (l:(List (List UInt8×List UInt8))):e1f (n+1) s l =
 a0a (p0h n s) fun r0 =>
 tif ((!(decide (r0.2=0)))) (
 some (0,r0.2)) (
 a0a (d0n n r0.1 (fun y1=>f0c n y1.1 s l r0.1)) fun r2 =>
 tif ((decide (r2<0))) (
 some (0,3)) (
 some (r2,0))):=by kernel_rfl
theorem m1k (n:Nat) (s:a0s):w0n (n+1) s =
 a0a (p0h n s) fun r0 =>
 tif ((!(decide (r0.2=0)))) (
 some (0,r0.2)) (
 a0a (d0n n r0.1 (fun y1=>f0b n y1.1 r0.1)) fun r2 =>
 tif ((decide (r2<0))) (
 some (0,7)) (
 some (r2,0))):=by kernel_rfl
theorem e1n (n:Nat) (c:b0y) (l:(List (List UInt8×List UInt8))):p0o (n+1) c l =
 a0a (f0k n c) fun r0 =>
 tif ((!(decide (r0=0)))) (
 some (([],(0,((0,(0,[])),(([],([],[])),(0,(0,((0,(0,(0,false))),((0,(0,(0,false))),((0,0),(0,(0,0))))))))))),r0)) (
 a0a (g0z n l) fun r1 =>
 tif ((!(decide (r1=0)))) (
 some (([],(0,((0,(0,[])),(([],([],[])),(0,(0,((0,(0,(0,false))),((0,(0,(0,false))),((0,0),(0,(0,0))))))))))),r1)) (
 a0a (k0x n l) fun r2 =>
 a0a (u0s n c) fun r3 =>
 some ((r2,(((-1):Int),((0,(0,[])),(r3,(0,(0,((0,(0,(0,false))),((0,(0,(0,false))),((0,0),(0,(0,0))))))))))),0))):=by kernel_rfl
theorem z0v (n:Nat) (c:b0y) (s:b0g):m0t (n+1) c s =
 a0a (u0u n c s.2.2.2.1) fun r0 =>
 tif ((!(decide (r0=0)))) (
 some (none,2)) (
 a0a (g0z n s.1) fun r1 =>
 tif ((!(decide (r1=0)))) (
 some (none,2)) (
 a0a (s0p n s.2.2.1 c.1) fun r2 =>
 tif ((!(decide (r2=0)))) (
 some (none,2)) (
 tif ((decide (s.2.1=((-1):Int)))) (
 a0a (x0q n (c,s)) fun r3 =>
 tif (r3) (
 some ((some (c,s)),0)) (
 tif ((!(decide (s.2.1=((-1):Int))))) (
 a0a (w0p n (c,s)) fun r4 =>
 tif (r4) (
 some ((some (c,s)),0)) (
 some (none,2))) (
 some (none,2)))) (
 tif ((!(decide (s.2.1=((-1):Int))))) (
 a0a (w0p n (c,s)) fun r5 =>
 tif (r5) (
 some ((some (c,s)),0)) (
 some (none,2))) (
 some (none,2)))))):=by kernel_rfl
theorem m1p (n:Nat) (s:c0j) (i:Int):e1h (n+1) s i =
 tif ((decide (s.2.2.2.2.2.1=i))) (
 some (0,s)) (
 tif ((decide (s.2.2.2.2.2.2.1=0))) (
 some (0,s)) (
 a0a (u0t n s.1 s.2.2.2.2.1 s.2.2.2.2.2 i) fun r0 =>
 tif ((decide (r0.2=0))) (
 some (r0.2,(s.1,(s.2.1,(s.2.2.1,(s.2.2.2.1,(r0.1,(0,(0,((0,(0,(0,false))),((0,(0,(0,false))),((0,0),(0,(0,0)))))))))))))) (
 some (r0.2,s)))):=by kernel_rfl
theorem s1e (n:Nat) (s:c0j) (i:Int) (e:a0w):w1x (n+1) s i e =
 a0a (n1i n s.2.2.2.1 s.1.1 e) fun r0 =>
 a0a (h1u n s.2.2.2.2.2.2 e) fun r1 =>
 tif ((!(decide (r0.2=0)))) (
 some (r0.2,s)) (
 some (r1.2,(s.1,(s.2.1,(e.1,(r0.1,(s.2.2.2.2.1,(i,r1.1)))))))):=by kernel_rfl
theorem s0a (n:Nat) (k:Int) (p1:Int) (p2:a0s):e0q (n+1) k p1 p2 =
 tif ((decide (k=p1))) (
 some true) (
 a0a (e0h n p2 k) fun r0 =>
 tif (r0) (
 a0a (at? p2.2.2.2 k) fun r1 =>
 a0a (at? p2.2.2.2 p1) fun r2 =>
 a0a (l0q n r1.1 r2.1) fun r3 =>
 some r3) (
 some false)):=by kernel_rfl
theorem u0a (n:Nat) (s1:(List (List UInt8×List UInt8))) (s2:(List (List UInt8×List UInt8))):k0v (n+1) s1 s2 =
 tif ((!(decide ((((List.length s1):Nat):Int)=(((List.length s2):Nat):Int))))) (
 some false) (
 a0a (f0e n a0b (s1,(s2,((((List.length s1):Nat):Int),(0,()))))) fun r0 =>
 d0a (fun y1 =>
 some true) (fun z2 =>
 some z2) r0):=by kernel_rfl
theorem i0n (n f:Nat) (s1:(List (List UInt8×List UInt8))) (s2:(List (List UInt8×List UInt8))) (s12:Int) (s13:Int):f0e n (f+1) (s1,s2,s12,s13,()) =
 tif ((decide (s13<s12))) (
 a0a (at? s1 s13) fun r0 =>
 a0a (at? s2 s13) fun r1 =>
 tif ((!((r0.1==r1.1)&&(r0.2==r1.2)))) (
 some (.inr false)) (
 f0e n f (s1,(s2,(s12,((IntKind.wrap .i64 (s13+1)),())))))) (
 some (.inl ())):=by kernel_rfl
theorem u0b (n:Nat) (s1:(List a0w)) (s2:(List a0w)):k0w (n+1) s1 s2 =
 tif ((!(decide ((((List.length s1):Nat):Int)=(((List.length s2):Nat):Int))))) (
 some false) (
 a0a (f0f n a0b (s1,(s2,((((List.length s1):Nat):Int),(0,()))))) fun r0 =>
 d0a (fun y1 =>
 some true) (fun z2 =>
 some z2) r0):=by kernel_rfl
theorem i0o (n f:Nat) (s1:(List a0w)) (s2:(List a0w)) (s12:Int) (s13:Int):f0f n (f+1) (s1,s2,s12,s13,()) =
 tif ((decide (s13<s12))) (
 a0a (at? s1 s13) fun r0 =>
 a0a (at? s2 s13) fun r1 =>
 tif ((!((decide (r0.1=r1.1))&&((decide (r0.2.1=r1.2.1))&&((decide (r0.2.2.1=r1.2.2.1))&&(r0.2.2.2==r1.2.2.2)))))) (
 some (.inr false)) (
 f0f n f (s1,(s2,(s12,((IntKind.wrap .i64 (s13+1)),())))))) (
 some (.inl ())):=by kernel_rfl
theorem z0x (n:Nat) (c:b0y) (last:Int) (now:Int):r0b (n+1) c last now =
 a0a (f0k n c) fun r0 =>
 tif ((decide (r0=0))) (
 a0a (x0h n last now c.2.1.1 c.2.2.1.1) fun r1 =>
 tif (r1) (
 a0a (x0h n last now c.2.1.2.1 c.2.2.1.2.1) fun r2 =>
 tif (r2) (
 a0a (x0h n last now c.2.1.2.2 c.2.2.1.2.2) fun r3 =>
 tif (r3) (
 some r3) (
 some r3)) (
 some r2)) (
 some r1)) (
 some (decide (r0=0))):=by kernel_rfl
theorem a1t (n:Nat) (c:Int):n0g (n+1) c =
 tif ((decide ((48:Int)≤c))) (
 some (decide (c≤57))) (
 some false):=by kernel_rfl
theorem m0p (n:Nat) (s:(List Int)) (f_:((Int×Unit)→Option Bool)):f0n (n+1) s f_ =
 a0a (l0i n s f_) fun r0 =>
 some (decide ((0:Int)≤r0)):=by kernel_rfl
theorem y0n (n:Nat) (c:Int):o0o (n+1) c =
 a0a (u0p n c) fun r0 =>
 some (!r0):=by kernel_rfl
theorem f1w (n:Nat) (c:Int):u0p (n+1) c =
 a0a (n0g n c) fun r0 =>
 tif (r0) (
 some true) (
 tif ((decide (c=95))) (
 some true) (
 tif ((decide ((97:Int)≤(orI .u8 c (32:Int))))) (
 some (decide ((orI .u8 c (32:Int))≤122))) (
 some false))):=by kernel_rfl
theorem q0b (n:Nat) (i:Int) (base:Int):l0e (n+1) i base =
 tif ((decide (base=10))) (
 tif ((decide ((0:Int)≤i))) (
 tif ((decide (i<100))) (
 a0a (i0u n i) fun r0 =>
 some r0) (
 tif ((decide (i<0))) (
 a0a (f0d n (IntKind.wrap .u64 ((0:Int)-(IntKind.wrap .u64 i)))) fun r1 =>
 tif (((decide ((1:Int)≤(IntKind.wrap .i64 ((1:Int)+r1))))&&(decide ((IntKind.wrap .i64 ((1:Int)+r1))≤24)))) (
 a0a (d0s n ((List.replicate 24 (0:Int)),(1,((Int.toNat (IntKind.wrap .i64 ((1:Int)+r1)))-1))) (IntKind.wrap .u64 ((0:Int)-(IntKind.wrap .u64 i)))) fun r2 =>
 tif (((decide ((List.length r2.1)=24))&&((decide (r2.2.1=1))&&true))) (
 tif ((decide (i<0))) (
 tif ((true&&(true&&(decide ((0:Int)<(((List.length r2.1):Nat):Int)))))) (
 a0a ((r2.1)[0]?) fun r3 =>
 tif ((decide ((List.length (List.set r2.1 0 (45:Int)))=24))) (
 tif (((decide ((0:Int)≤(IntKind.wrap .i64 ((1:Int)+r1))))&&(decide ((IntKind.wrap .i64 ((1:Int)+r1))≤24)))) (
 some (List.map (fun y4=>(UInt8.ofNat (Int.toNat y4))) (List.take ((Int.toNat (IntKind.wrap .i64 ((1:Int)+r1)))-0) (List.drop 0 (List.set r2.1 0 (45:Int)))))) (
 none)) (
 none)) (
 none)) (
 tif ((decide ((List.length r2.1)=24))) (
 tif (((decide ((1:Int)≤(IntKind.wrap .i64 ((1:Int)+r1))))&&(decide ((IntKind.wrap .i64 ((1:Int)+r1))≤24)))) (
 some (List.map (fun y5=>(UInt8.ofNat (Int.toNat y5))) (List.take ((Int.toNat (IntKind.wrap .i64 ((1:Int)+r1)))-1) (List.drop 1 r2.1)))) (
 none)) (
 none))) (
 none)) (
 none)) (
 a0a (f0d n (IntKind.wrap .u64 i)) fun r6 =>
 tif (((decide ((1:Int)≤(IntKind.wrap .i64 ((1:Int)+r6))))&&(decide ((IntKind.wrap .i64 ((1:Int)+r6))≤24)))) (
 a0a (d0s n ((List.replicate 24 (0:Int)),(1,((Int.toNat (IntKind.wrap .i64 ((1:Int)+r6)))-1))) (IntKind.wrap .u64 i)) fun r7 =>
 tif (((decide ((List.length r7.1)=24))&&((decide (r7.2.1=1))&&true))) (
 tif ((decide (i<0))) (
 tif ((true&&(true&&(decide ((0:Int)<(((List.length r7.1):Nat):Int)))))) (
 a0a ((r7.1)[0]?) fun r8 =>
 tif ((decide ((List.length (List.set r7.1 0 (45:Int)))=24))) (
 tif (((decide ((0:Int)≤(IntKind.wrap .i64 ((1:Int)+r6))))&&(decide ((IntKind.wrap .i64 ((1:Int)+r6))≤24)))) (
 some (List.map (fun y9=>(UInt8.ofNat (Int.toNat y9))) (List.take ((Int.toNat (IntKind.wrap .i64 ((1:Int)+r6)))-0) (List.drop 0 (List.set r7.1 0 (45:Int)))))) (
 none)) (
 none)) (
 none)) (
 tif ((decide ((List.length r7.1)=24))) (
 tif (((decide ((1:Int)≤(IntKind.wrap .i64 ((1:Int)+r6))))&&(decide ((IntKind.wrap .i64 ((1:Int)+r6))≤24)))) (
 some (List.map (fun y10=>(UInt8.ofNat (Int.toNat y10))) (List.take ((Int.toNat (IntKind.wrap .i64 ((1:Int)+r6)))-1) (List.drop 1 r7.1)))) (
 none)) (
 none))) (
 none)) (
 none)))) (
 tif ((decide (i<0))) (
 a0a (f0d n (IntKind.wrap .u64 ((0:Int)-(IntKind.wrap .u64 i)))) fun r11 =>
 tif (((decide ((1:Int)≤(IntKind.wrap .i64 ((1:Int)+r11))))&&(decide ((IntKind.wrap .i64 ((1:Int)+r11))≤24)))) (
 a0a (d0s n ((List.replicate 24 (0:Int)),(1,((Int.toNat (IntKind.wrap .i64 ((1:Int)+r11)))-1))) (IntKind.wrap .u64 ((0:Int)-(IntKind.wrap .u64 i)))) fun r12 =>
 tif (((decide ((List.length r12.1)=24))&&((decide (r12.2.1=1))&&true))) (
 tif ((decide (i<0))) (
 tif ((true&&(true&&(decide ((0:Int)<(((List.length r12.1):Nat):Int)))))) (
 a0a ((r12.1)[0]?) fun r13 =>
 tif ((decide ((List.length (List.set r12.1 0 (45:Int)))=24))) (
 tif (((decide ((0:Int)≤(IntKind.wrap .i64 ((1:Int)+r11))))&&(decide ((IntKind.wrap .i64 ((1:Int)+r11))≤24)))) (
 some (List.map (fun y14=>(UInt8.ofNat (Int.toNat y14))) (List.take ((Int.toNat (IntKind.wrap .i64 ((1:Int)+r11)))-0) (List.drop 0 (List.set r12.1 0 (45:Int)))))) (
 none)) (
 none)) (
 none)) (
 tif ((decide ((List.length r12.1)=24))) (
 tif (((decide ((1:Int)≤(IntKind.wrap .i64 ((1:Int)+r11))))&&(decide ((IntKind.wrap .i64 ((1:Int)+r11))≤24)))) (
 some (List.map (fun y15=>(UInt8.ofNat (Int.toNat y15))) (List.take ((Int.toNat (IntKind.wrap .i64 ((1:Int)+r11)))-1) (List.drop 1 r12.1)))) (
 none)) (
 none))) (
 none)) (
 none)) (
 a0a (f0d n (IntKind.wrap .u64 i)) fun r16 =>
 tif (((decide ((1:Int)≤(IntKind.wrap .i64 ((1:Int)+r16))))&&(decide ((IntKind.wrap .i64 ((1:Int)+r16))≤24)))) (
 a0a (d0s n ((List.replicate 24 (0:Int)),(1,((Int.toNat (IntKind.wrap .i64 ((1:Int)+r16)))-1))) (IntKind.wrap .u64 i)) fun r17 =>
 tif (((decide ((List.length r17.1)=24))&&((decide (r17.2.1=1))&&true))) (
 tif ((decide (i<0))) (
 tif ((true&&(true&&(decide ((0:Int)<(((List.length r17.1):Nat):Int)))))) (
 a0a ((r17.1)[0]?) fun r18 =>
 tif ((decide ((List.length (List.set r17.1 0 (45:Int)))=24))) (
 tif (((decide ((0:Int)≤(IntKind.wrap .i64 ((1:Int)+r16))))&&(decide ((IntKind.wrap .i64 ((1:Int)+r16))≤24)))) (
 some (List.map (fun y19=>(UInt8.ofNat (Int.toNat y19))) (List.take ((Int.toNat (IntKind.wrap .i64 ((1:Int)+r16)))-0) (List.drop 0 (List.set r17.1 0 (45:Int)))))) (
 none)) (
 none)) (
 none)) (
 tif ((decide ((List.length r17.1)=24))) (
 tif (((decide ((1:Int)≤(IntKind.wrap .i64 ((1:Int)+r16))))&&(decide ((IntKind.wrap .i64 ((1:Int)+r16))≤24)))) (
 some (List.map (fun y20=>(UInt8.ofNat (Int.toNat y20))) (List.take ((Int.toNat (IntKind.wrap .i64 ((1:Int)+r16)))-1) (List.drop 1 r17.1)))) (
 none)) (
 none))) (
 none)) (
 none)))) (
 none):=by kernel_rfl
theorem m1l (n:Nat) (s:a0s):e1d (n+1) s =
 a0a (p0h n s) fun r0 =>
 tif ((!(decide (r0.2=0)))) (
 some (0:Int)) (
 a0a (s0b n s.2.1) fun r1 =>
 tif ((!r1)) (
 some (0:Int)) (
 a0a (i0s n r0.1) fun r2 =>
 some r2)):=by kernel_rfl
theorem e1e (n:Nat) (i:Int) (p1:a0s) (p2:(List (List UInt8×List UInt8))) (p3:a0s):f0c (n+1) i p1 p2 p3 =
 a0a (at? p1.2.2.2 i) fun r0 =>
 a0a (l0q n r0.1 p2) fun r1 =>
 tif (r1) (
 a0a (e0h n p3 i) fun r2 =>
 some r2) (
 some false):=by kernel_rfl
theorem e1c (n:Nat) (i:Int) (p1:a0s):f0b (n+1) i p1 =
 a0a (e0h n p1 i) fun r0 =>
 some (!r0):=by kernel_rfl
theorem u0c (n:Nat) (s:(List (List UInt8×List UInt8))):k0x (n+1) s =
 tif ((decide ((List.length s)=0))) (
 both (
 some []) (
 tif ((decide (((0+(List.length s))*32)≤140737488355328))) (
 some ([]++s)) (
 none))) (
 tif ((decide (((0+(List.length s))*32)≤140737488355328))) (
 some ([]++s)) (
 none)):=by kernel_rfl
theorem g1d (n:Nat) (c:b0y):u0s (n+1) c =
 a0a (f0k n c) fun r0 =>
 tif ((!(decide (r0=0)))) (
 some ([],([],[]))) (
 a0a (r0x n c.2.2.1.1) fun r1 =>
 a0a (r0x n c.2.2.1.2.1) fun r2 =>
 a0a (r0x n c.2.2.1.2.2) fun r3 =>
 some (r1,(r2,r3))):=by kernel_rfl
theorem g1f (n:Nat) (c:b0y) (s:((List a0c)×((List a0c)×(List a0c)))):u0u (n+1) c s =
 a0a (t0f n c s) fun r0 =>
 y0j (r0.1) (
 some r0.2) fun r1 =>
 some r0.2:=by kernel_rfl
theorem j1i (n:Nat) (r:(Int×(Int×(List a0w)))) (room:Int):s0p (n+1) r room =
 tif ((decide (room<1))) (
 some (2:Int)) (
 tif ((decide ((4096:Int)<room))) (
 some (2:Int)) (
 tif ((decide (room<(((List.length r.2.2):Nat):Int)))) (
 some (2:Int)) (
 tif ((decide (r.1<0))) (
 some (2:Int)) (
 tif ((decide ((70368744177664:Int)<r.1))) (
 some (2:Int)) (
 a0a (u0h n r.2.2) fun r0 =>
 tif ((!r0)) (
 some (2:Int)) (
 a0a (c1d n r room) fun r1 =>
 tif ((!r1)) (
 some (2:Int)) (
 some (0:Int)))))))):=by kernel_rfl
theorem i1w (n:Nat) (s:c0j):x0q (n+1) s =
 tif ((decide ((((List.length s.2.2.2.1.2.2):Nat):Int)=0))) (
 tif (((decide (s.2.2.2.2.2.1=0))&&((decide (s.2.2.2.2.2.2.1=0))&&((decide (s.2.2.2.2.2.2.2.1.1=0))&&((decide (s.2.2.2.2.2.2.2.1.2.1=0))&&((decide (s.2.2.2.2.2.2.2.1.2.2.1=0))&&((s.2.2.2.2.2.2.2.1.2.2.2==false)&&((decide (s.2.2.2.2.2.2.2.2.1.1=0))&&((decide (s.2.2.2.2.2.2.2.2.1.2.1=0))&&((decide (s.2.2.2.2.2.2.2.2.1.2.2.1=0))&&((s.2.2.2.2.2.2.2.2.1.2.2.2==false)&&((decide (s.2.2.2.2.2.2.2.2.2.1.1=0))&&((decide (s.2.2.2.2.2.2.2.2.2.1.2=0))&&((decide (s.2.2.2.2.2.2.2.2.2.2.1=0))&&((decide (s.2.2.2.2.2.2.2.2.2.2.2.1=0))&&(decide (s.2.2.2.2.2.2.2.2.2.2.2.2=0))))))))))))))))) (
 a0a (d0i n s.2.2.2.2.1.1 (0:Int)) fun r0 =>
 tif ((!r0)) (
 a0a (d0i n s.2.2.2.2.1.2.1 (0:Int)) fun r1 =>
 tif ((!r1)) (
 a0a (d0i n s.2.2.2.2.1.2.2 (0:Int)) fun r2 =>
 some (!r2)) (
 some false)) (
 some false)) (
 some false)) (
 some false):=by kernel_rfl
theorem m1q (n:Nat) (s:c0j):w0p (n+1) s =
 a0a (w0q n s.2.2.2.1) fun r0 =>
 tif ((decide (r0.2=0))) (
 tif ((decide (r0.1.1=s.2.2.1))) (
 tif ((decide (s.2.2.2.2.2.2.2.2.1.1=s.2.2.1))) (
 a0a (j0p n s.2.2.2.2.2.2 s.1.2.1.1 s.2.2.2.2.2.1) fun r1 =>
 tif (r1) (
 tif ((decide (s.1.2.1.1=0))) (
 none) (
 a0a (d0i n s.2.2.2.2.1.1 (IntKind.wrap .i64 (Int.tdiv s.2.2.1 s.1.2.1.1))) fun r2 =>
 tif ((!r2)) (
 tif ((decide (s.1.2.1.2.1=0))) (
 none) (
 a0a (d0i n s.2.2.2.2.1.2.1 (IntKind.wrap .i64 (Int.tdiv s.2.2.1 s.1.2.1.2.1))) fun r3 =>
 tif ((!r3)) (
 tif ((decide (s.1.2.1.2.2=0))) (
 none) (
 a0a (d0i n s.2.2.2.2.1.2.2 (IntKind.wrap .i64 (Int.tdiv s.2.2.1 s.1.2.1.2.2))) fun r4 =>
 some (!r4))) (
 some false))) (
 some false))) (
 some false)) (
 some false)) (
 some false)) (
 some false):=by kernel_rfl
end Go.Proofs.YtfibfcjepngbmaaGreatDoor
