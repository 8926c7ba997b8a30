/- Trees, printed by program. -/
import Derived.Test.YtkajechaanmplaaGreatDoorTr0
import Derived.KernelRfl
set_option linter.unusedVariables false
namespace Go.Proofs.YtkajechaanmplaaGreatDoor
open Go.Flat
theorem w0u (n:Nat) (c:b0b) (l:(List b0o)):s0h (n+1) c l =
 a0a (n0x n ) fun r0 =>
 tif ((!r0)) (
 some false) (
 a0a (p0f n c) fun r1 =>
 tif ((!r1)) (
 some true) (
 a0a (i0q n l) fun r2 =>
 tif ((!r2)) (
 some true) (
 a0a (e1w n c) fun r3 =>
 tif ((!(decide (r3.2=0)))) (
 some false) (
 a0a (e0f n a0b (c,(r3.1,(l,((((List.length l):Nat):Int),(0,())))))) fun r4 =>
 c0t (fun y5 =>
 a0a (x0j n y5.2.1) fun r6 =>
 a0a (d0t n a0b (y5.1,(y5.2.1,(r6,((((List.length r6):Nat):Int),(0,())))))) fun r7 =>
 c0t (fun y8 =>
 some true) (fun z9 =>
 some z9) r7) (fun z10 =>
 some z10) r4)))):=by kernel_rfl
theorem j0k (n f:Nat) (c_:b0b) (s:a0w) (s43:(List b0o)) (s44:Int) (s45:Int):e0f n (f+1) (c_,s,s43,s44,s45,()) =
 tif ((decide (s45<s44))) (
 a0a (at? s43 s45) fun r0 =>
 tif ((!(decide (r0.1=3)))) (
 a0a (u0i n r0 s) fun r1 =>
 e0f n f (c_,(r1.1,(s43,(s44,((IntKind.wrap .i64 (s45+1)),())))))) (
 e0f n f (c_,(s,(s43,(s44,((IntKind.wrap .i64 (s45+1)),()))))))) (
 some (.inl (c_,(s,())))):=by kernel_rfl
theorem i0i (n f:Nat) (c_:b0b) (s:a0w) (s60:(List Int)) (s61:Int) (s62:Int):d0t n (f+1) (c_,s,s60,s61,s62,()) =
 tif ((decide (s62<s61))) (
 a0a (at? s60 s62) fun r0 =>
 a0a ((s60)[(Int.toNat s62)]?) fun r1 =>
 tif ((decide (r1<0))) (
 some (.inr false)) (
 tif ((decide ((((List.length s.2.2.2):Nat):Int)≤r1))) (
 some (.inr false)) (
 a0a (at? s.2.2.2 r1) fun r2 =>
 tif ((decide ((0:Int)<r2.2.2.1.1))) (
 d0t n f (c_,(s,(s60,(s61,((IntKind.wrap .i64 (s62+1)),())))))) (
 a0a (h0a n r2.2.2.1.2.2) fun r3 =>
 a0a (p0p n (9:Int) r3.1) fun r4 =>
 a0a (t0f n (9:Int) r4.1) fun r5 =>
 a0a (v0p n r5.1) fun r6 =>
 a0a (l0g n c_ r2.1) fun r7 =>
 tif ((!(decide (r3.2=0)))) (
 some (.inr false)) (
 tif ((!(decide (r4.2=0)))) (
 some (.inr false)) (
 tif ((!(decide (r5.2=0)))) (
 some (.inr false)) (
 tif ((!(decide (r6.2=0)))) (
 some (.inr false)) (
 tif ((!(decide (r7.2=0)))) (
 some (.inr false)) (
 tif ((decide ((((List.length r6.1):Nat):Int)=0))) (
 some (.inr false)) (
 a0a (e0v n a0b (c_,(s,(r2,(r7.1,(s60,(s61,(s62,(r6.1,((((List.length r6.1):Nat):Int),(0,()))))))))))) fun r8 =>
 c0t (fun y9 =>
 a0a (g0v n y9.2.2.1 y9.2.2.2.1) fun r10 =>
 tif ((!r10)) (
 some (.inr false)) (
 d0t n f (y9.1,(y9.2.1,(y9.2.2.2.2.1,(y9.2.2.2.2.2.1,((IntKind.wrap .i64 (y9.2.2.2.2.2.2.1+1)),()))))))) (fun z11 =>
 some (.inr z11)) r8)))))))))) (
 some (.inl ())):=by kernel_rfl
theorem i0h (n f:Nat) (c_:b0b) (s:a0w) (x:c0f) (y:c0f) (s60:(List Int)) (s61:Int) (s62:Int) (s136:(List a0m)) (s137:Int) (s138:Int):e0v n (f+1) (c_,s,x,y,s60,s61,s62,s136,s137,s138,()) =
 tif ((decide (s138<s137))) (
 a0a (at? s136 s138) fun r0 =>
 a0a (p0o n c_ y r0) fun r1 =>
 tif ((!(decide (r1.2=0)))) (
 some (.inr false)) (
 e0v n f (c_,(s,(x,(r1.1,(s60,(s61,(s62,(s136,(s137,((IntKind.wrap .i64 (s138+1)),())))))))))))) (
 some (.inl (c_,(s,(x,(y,(s60,(s61,(s62,()))))))))):=by kernel_rfl
theorem y0g (n:Nat)  : n0x (n+1)  =
 a0a (h0a n ((5,(100,(0,false)))::[])) fun r0 =>
 tif ((r0.1==((1:UInt8)::((20:UInt8)::((200:UInt8)::((1:UInt8)::[])))))) (
 tif ((decide (r0.2=0))) (
 a0a (z1p n ) fun r1 =>
 a0a (e1a n r1) fun r2 =>
 tif ((decide (r2=1))) (
 a0a (a1j n (1:Int) ((((((97:UInt8)::[]),[])::[]),(5,(0,(0,false))))::((((((98:UInt8)::[]),[])::[]),(5,(0,(0,false))))::[]))) fun r3 =>
 some (decide ((((List.length r3):Nat):Int)=2))) (
 some false)) (
 some false)) (
 some false):=by kernel_rfl
theorem e1l (n:Nat) (c:b0b):p0f (n+1) c =
 a0a (e1w n c) fun r0 =>
 tif ((decide (r0.2=0))) (
 tif ((decide ((((List.length r0.1.2.2.2):Nat):Int)≤8))) (
 tif ((decide (c.1≤60))) (
 tif ((decide (c.2.2.1.1≤40))) (
 tif ((decide (c.2.2.1.2.1≤40))) (
 some (decide (c.2.2.1.2.2≤40))) (
 some false)) (
 some false)) (
 some false)) (
 some false)) (
 some false):=by kernel_rfl
theorem w0t (n:Nat) (l:(List b0o)):i0q (n+1) l =
 tif ((decide ((40:Int)<(((List.length l):Nat):Int)))) (
 some false) (
 a0a (e0e n a0b (l,((((List.length l):Nat):Int),(0,())))) fun r0 =>
 c0t (fun y1 =>
 some true) (fun z2 =>
 some z2) r0):=by kernel_rfl
theorem j0j (n f:Nat) (s8:(List b0o)) (s9:Int) (s10:Int):e0e n (f+1) (s8,s9,s10,()) =
 tif ((decide (s10<s9))) (
 a0a (at? s8 s10) fun r0 =>
 a0a (t0q n r0.2.1.1) fun r1 =>
 tif ((decide (r1=0))) (
 some (.inr false)) (
 e0e n f (s8,(s9,((IntKind.wrap .i64 (s10+1)),()))))) (
 some (.inl ())):=by kernel_rfl
theorem s1v (n:Nat) (c:b0b):e1w (n+1) c =
 a0a (u0a n c) fun r0 =>
 tif ((!(decide (r0.2=0)))) (
 some (((0,((0,(0,0)),((0,(0,0)),(0,0)))),(0,(0,[]))),r0.2)) (
 tif (((decide ((0:Int)≤c.2.2.2.1))&&((decide (c.2.2.2.1≤c.2.2.2.1))&&(decide ((c.2.2.2.1*264)≤140737488355328))))) (
 some ((c,(0,(((-1):Int),(List.replicate (Int.toNat c.2.2.2.1) ([],(0,((0,(0,[])),(([],([],[])),(0,(0,((0,(0,(0,false))),((0,(0,(0,false))),((0,0),(0,(0,0))))))))))))))),0)) (
 none)):=by kernel_rfl
theorem e1m (n:Nat) (a:b0o) (s:a0w):u0i (n+1) a s =
 tif ((decide (a.1=0))) (
 a0a (x0z n s a.2.1.1 a.2.1.2) fun r0 =>
 tif ((decide (r0.2=0))) (
 some r0) (
 some (s,r0.2))) (
 tif ((decide (a.1=1))) (
 a0a (h1p n s a.2.2) fun r1 =>
 some (r1.1,0)) (
 tif ((decide (a.1=2))) (
 a0a (e1u n s) fun r2 =>
 tif ((decide (r2.2.2=0))) (
 some (r2.1,0)) (
 some (s,0))) (
 tif ((decide (a.1=3))) (
 a0a (m1t n s) fun r3 =>
 tif ((decide (r3.2=0))) (
 some (r3.1,0)) (
 some (s,0))) (
 some (s,0))))):=by kernel_rfl
theorem m1z (n:Nat) (s:a0w):x0j (n+1) s =
 a0a (m0l n s) fun r0 =>
 tif ((!(decide (r0.2=0)))) (
 some []) (
 a0a (g0q n a0b (r0.1,([],((((List.length r0.1.2.2.2):Nat):Int),(0,()))))) fun r1 =>
 c0t (fun y2 =>
 some y2.1) (fun z3 =>
 some z3) r1):=by kernel_rfl
theorem q0p (n f:Nat) (v:a0w) (out:(List Int)) (s17:Int) (s18:Int):g0q n (f+1) (v,out,s17,s18,()) =
 tif ((decide (s18<s17))) (
 a0a (d0n n v s18) fun r0 =>
 tif (r0) (
 tif ((decide ((((List.length out)+1)*8)≤140737488355328))) (
 g0q n f (v,((out++(s18::[])),(s17,((IntKind.wrap .i64 (s18+1)),()))))) (
 none)) (
 g0q n f (v,(out,(s17,((IntKind.wrap .i64 (s18+1)),())))))) (
 some (.inl (out,()))):=by kernel_rfl
theorem b1t (n:Nat) (l:(List a0m)):h0a (n+1) l =
 a0a (r0r n l) fun r0 =>
 tif ((!(decide (r0=0)))) (
 some ([],r0)) (
 a0a (a0o n [] (IntKind.wrap .u64 (((List.length l):Nat):Int))) fun r1 =>
 a0a (h0q n a0b (r1,((0,0),(l,((((List.length l):Nat):Int),(0,())))))) fun r2 =>
 c0t (fun y3 =>
 a0a (f0n n y3.1) fun r4 =>
 some (r4.1,0)) (fun z5 =>
 some z5) r2):=by kernel_rfl
theorem l0u (n f:Nat) (w:(List Int)) (x:(Int×Int)) (s18:(List a0m)) (s19:Int) (s20:Int):h0q n (f+1) (w,x,s18,s19,s20,()) =
 tif ((decide (s20<s19))) (
 a0a (at? s18 s20) fun r0 =>
 a0a (j0z n x w r0) fun r1 =>
 h0q n f (r1.2,(r1.1,(s18,(s19,((IntKind.wrap .i64 (s20+1)),())))))) (
 some (.inl (w,()))):=by kernel_rfl
theorem f1i (n:Nat) (kind:Int) (load:List UInt8):p0p (n+1) kind load =
 tif ((decide ((4194304:Int)<(((List.length load):Nat):Int)))) (
 some ([],6)) (
 a0a (g0j n [] (1:Int) (IntKind.wrap .u64 kind)) fun r0 =>
 a0a (l0w n r0 load) fun r1 =>
 a0a (f0n n r1) fun r2 =>
 a0a (t0e n r2.1) fun r3 =>
 tif ((decide (((List.length r2.1)+(List.length r3))≤9223372036854775807))) (
 some ((r2.1++r3),0)) (
 none)):=by kernel_rfl
theorem j1o (n:Nat) (kind:Int) (s:List UInt8):t0f (n+1) kind s =
 a0a (j1n n s) fun r0 =>
 tif ((!(decide (r0.2.2.2=0)))) (
 some ([],4)) (
 tif ((!(decide (r0.1=kind)))) (
 some ([],4)) (
 tif ((!(r0.2.2.1==[]))) (
 some ([],4)) (
 some (r0.2.1,0)))):=by kernel_rfl
theorem h1m (n:Nat) (s:List UInt8):v0p (n+1) s =
 a0a (v0t n s) fun r0 =>
 a0a (b0r n r0) fun r1 =>
 a0a (i0y n a0b (s,(r1.2,((0,0),([],(r1.1,())))))) fun r2 =>
 c0t (fun y3 =>
 a0a (h0a n y3.2.2.1) fun r4 =>
 a0a (d0g n y3.2.1) fun r5 =>
 tif (r5) (
 some ([],4)) (
 tif ((!(decide (r4.2=0)))) (
 some ([],4)) (
 tif ((!(r4.1==y3.1))) (
 some ([],4)) (
 some (y3.2.2.1,0))))) (fun z6 =>
 some z6) r2:=by kernel_rfl
theorem n0v (n f:Nat) (s:List UInt8) (r:(List UInt8×Bool)) (x:(Int×Int)) (out:(List a0m)) (n_:Int):i0y n (f+1) (s,r,x,out,n_,()) =
 tif ((decide ((0:Int)<n_))) (
 a0a (d0g n r) fun r0 =>
 tif ((!r0)) (
 tif ((decide ((((List.length out):Nat):Int)≤4096))) (
 a0a (k0y n x r) fun r1 =>
 tif ((decide ((((List.length out)+1)*32)≤140737488355328))) (
 i0y n f (s,(r1.2.2,(r1.2.1,((out++(r1.1::[])),((IntKind.wrap .u64 (n_-1)),())))))) (
 none)) (
 some (.inl (s,(r,(out,())))))) (
 some (.inl (s,(r,(out,())))))) (
 some (.inl (s,(r,(out,()))))):=by kernel_rfl
theorem f1g (n:Nat) (c:b0b) (l:(List (List UInt8×List UInt8))):l0g (n+1) c l =
 a0a (c0w n c) fun r0 =>
 tif ((!(decide (r0=0)))) (
 some (([],(0,((0,(0,[])),(([],([],[])),(0,(0,((0,(0,(0,false))),((0,(0,(0,false))),((0,0),(0,(0,0))))))))))),r0)) (
 a0a (j0x n l) fun r1 =>
 tif ((!(decide (r1=0)))) (
 some (([],(0,((0,(0,[])),(([],([],[])),(0,(0,((0,(0,(0,false))),((0,(0,(0,false))),((0,0),(0,(0,0))))))))))),r1)) (
 a0a (k0t n l) fun r2 =>
 a0a (v0i n c) fun r3 =>
 some ((r2,(((-1):Int),((0,(0,[])),(r3,(0,(0,((0,(0,(0,false))),((0,(0,(0,false))),((0,0),(0,(0,0))))))))))),0))):=by kernel_rfl
theorem f1f (n:Nat) (c:b0b) (s:c0f) (e:a0m):p0o (n+1) c s e =
 a0a (m0q n c s) fun r0 =>
 z0i (r0.1) (
 tif ((!(decide (r0.2=0)))) (
 some (([],(0,((0,(0,[])),(([],([],[])),(0,(0,((0,(0,(0,false))),((0,(0,(0,false))),((0,0),(0,(0,0))))))))))),2)) (
 a0a (d0b n e) fun r1 =>
 tif ((!(decide (r1=0)))) (
 some (([],(0,((0,(0,[])),(([],([],[])),(0,(0,((0,(0,(0,false))),((0,(0,(0,false))),((0,0),(0,(0,0))))))))))),2)) (
 tif ((decide (e.1≤s.2.1))) (
 some (([],(0,((0,(0,[])),(([],([],[])),(0,(0,((0,(0,(0,false))),((0,(0,(0,false))),((0,0),(0,(0,0))))))))))),9)) (
 tif ((decide (c.2.1.1=0))) (
 none) (
 none))))) fun r2 =>
 tif ((!(decide (r0.2=0)))) (
 some (([],(0,((0,(0,[])),(([],([],[])),(0,(0,((0,(0,(0,false))),((0,(0,(0,false))),((0,0),(0,(0,0))))))))))),2)) (
 a0a (d0b n e) fun r3 =>
 tif ((!(decide (r3=0)))) (
 some (([],(0,((0,(0,[])),(([],([],[])),(0,(0,((0,(0,(0,false))),((0,(0,(0,false))),((0,0),(0,(0,0))))))))))),2)) (
 tif ((decide (e.1≤s.2.1))) (
 some (([],(0,((0,(0,[])),(([],([],[])),(0,(0,((0,(0,(0,false))),((0,(0,(0,false))),((0,0),(0,(0,0))))))))))),9)) (
 tif ((decide (c.2.1.1=0))) (
 none) (
 a0a (f1b n r2 (IntKind.wrap .i64 (Int.tdiv e.1 c.2.1.1))) fun r4 =>
 tif ((!(decide (r4.1=0)))) (
 some (([],(0,((0,(0,[])),(([],([],[])),(0,(0,((0,(0,(0,false))),((0,(0,(0,false))),((0,0),(0,(0,0))))))))))),r4.1)) (
 a0a (x1o n r4.2 (IntKind.wrap .i64 (Int.tdiv e.1 c.2.1.1)) e) fun r5 =>
 tif ((!(decide (r5.1=0)))) (
 some (([],(0,((0,(0,[])),(([],([],[])),(0,(0,((0,(0,(0,false))),((0,(0,(0,false))),((0,0),(0,(0,0))))))))))),r5.1)) (
 some (r5.2.2,0))))))):=by kernel_rfl
theorem a1x (n:Nat) (a:c0f) (b:c0f):g0v (n+1) a b =
 a0a (l0n n a.1 b.1) fun r0 =>
 tif (r0) (
 tif ((decide (a.2.1=b.2.1))) (
 a0a (q1r n a.2.2.1 b.2.2.1) fun r1 =>
 tif (r1) (
 tif (((decide (a.2.2.2.2.1=b.2.2.2.2.1))&&((decide (a.2.2.2.2.2.1=b.2.2.2.2.2.1))&&((decide (a.2.2.2.2.2.2.1.1=b.2.2.2.2.2.2.1.1))&&((decide (a.2.2.2.2.2.2.1.2.1=b.2.2.2.2.2.2.1.2.1))&&((decide (a.2.2.2.2.2.2.1.2.2.1=b.2.2.2.2.2.2.1.2.2.1))&&((a.2.2.2.2.2.2.1.2.2.2==b.2.2.2.2.2.2.1.2.2.2)&&((decide (a.2.2.2.2.2.2.2.1.1=b.2.2.2.2.2.2.2.1.1))&&((decide (a.2.2.2.2.2.2.2.1.2.1=b.2.2.2.2.2.2.2.1.2.1))&&((decide (a.2.2.2.2.2.2.2.1.2.2.1=b.2.2.2.2.2.2.2.1.2.2.1))&&((a.2.2.2.2.2.2.2.1.2.2.2==b.2.2.2.2.2.2.2.1.2.2.2)&&((decide (a.2.2.2.2.2.2.2.2.1.1=b.2.2.2.2.2.2.2.2.1.1))&&((decide (a.2.2.2.2.2.2.2.2.1.2=b.2.2.2.2.2.2.2.2.1.2))&&((decide (a.2.2.2.2.2.2.2.2.2.1=b.2.2.2.2.2.2.2.2.2.1))&&((decide (a.2.2.2.2.2.2.2.2.2.2.1=b.2.2.2.2.2.2.2.2.2.2.1))&&(decide (a.2.2.2.2.2.2.2.2.2.2.2=b.2.2.2.2.2.2.2.2.2.2.2))))))))))))))))) (
 a0a (g0b n a.2.2.2.1.1 b.2.2.2.1.1) fun r2 =>
 tif (r2) (
 a0a (g0b n a.2.2.2.1.2.1 b.2.2.2.1.2.1) fun r3 =>
 tif (r3) (
 a0a (g0b n a.2.2.2.1.2.2 b.2.2.2.1.2.2) fun r4 =>
 some r4) (
 some false)) (
 some false)) (
 some false)) (
 some false)) (
 some false)) (
 some false):=by kernel_rfl
theorem k1u (n:Nat) (l:(List (List UInt8×List UInt8))):t0q (n+1) l =
 a0a (h0y n a0b (l,((((List.length l):Nat):Int),(0,())))) fun r0 =>
 c0t (fun y1 =>
 some (1:Int)) (fun z2 =>
 some z2) r0:=by kernel_rfl
theorem o0t (n f:Nat) (s5:(List (List UInt8×List UInt8))) (s6:Int) (s7:Int):h0y n (f+1) (s5,s6,s7,()) =
 tif ((decide (s7<s6))) (
 a0a (at? s5 s7) fun r0 =>
 tif ((decide (s7=40))) (
 some (.inr (0:Int))) (
 tif ((decide ((1000:Int)<(((List.length r0.1):Nat):Int)))) (
 some (.inr (0:Int))) (
 tif ((decide ((1000:Int)<(((List.length r0.2):Nat):Int)))) (
 some (.inr (0:Int))) (
 h0y n f (s5,(s6,((IntKind.wrap .i64 (s7+1)),()))))))) (
 some (.inl ())):=by kernel_rfl
theorem w0o (n:Nat) (c:b0b):u0a (n+1) c =
 a0a (c0w n c) fun r0 =>
 tif ((!(decide (r0=0)))) (
 some (0,r0)) (
 a0a (a1b n c) fun r1 =>
 a0a (v0q n c) fun r2 =>
 tif ((decide ((16777216:Int)<(IntKind.wrap .i64 ((IntKind.wrap .i64 (r1+1))+(IntKind.wrap .i64 (c.2.2.2.1*r2))))))) (
 some (0,1)) (
 some ((IntKind.wrap .i64 ((IntKind.wrap .i64 (r1+1))+(IntKind.wrap .i64 (c.2.2.2.1*r2)))),0))):=by kernel_rfl
theorem i1n (n:Nat) (s:a0w) (l:(List (List UInt8×List UInt8))) (e:a0m):x0z (n+1) s l e =
 a0a (r0j n s l e) fun r0 =>
 tif ((!(decide (r0.2.2=0)))) (
 some (((0,((0,(0,0)),((0,(0,0)),(0,0)))),(0,(0,[]))),r0.2.2)) (
 a0a (x0y n s r0.1 r0.2.1 l) fun r1 =>
 tif ((!(decide (r1.2=0)))) (
 some (((0,((0,(0,0)),((0,(0,0)),(0,0)))),(0,(0,[]))),r1.2)) (
 a0a (p0o n s.1 r1.1 e) fun r2 =>
 tif ((!(decide (r2.2=0)))) (
 some (((0,((0,(0,0)),((0,(0,0)),(0,0)))),(0,(0,[]))),r2.2)) (
 a0a (j0r n s.2.2.2) fun r3 =>
 a0a (at? r3 r0.1) fun r4 =>
 a0a ((r3)[(Int.toNat r0.1)]?) fun r5 =>
 some ((s.1,(s.2.1,(s.2.2.1,(List.set r3 (Int.toNat r0.1) r2.1)))),0)))):=by kernel_rfl
theorem p1j (n:Nat) (s:a0w) (now:Int):h1p (n+1) s now =
 tif ((decide (now≤s.2.1))) (
 some (s,false)) (
 tif ((decide ((35184372088832:Int)≤now))) (
 some (s,false)) (
 a0a (j0o n s) fun r0 =>
 tif ((!(decide (r0=0)))) (
 some (s,false)) (
 some ((s.1,(now,s.2.2)),true)))):=by kernel_rfl
theorem m1s (n:Nat) (s:a0w):e1u (n+1) s =
 a0a (j0o n s) fun r0 =>
 tif ((!(decide (r0=0)))) (
 some (((0,((0,(0,0)),((0,(0,0)),(0,0)))),(0,(0,[]))),(0,r0))) (
 a0a (y0l n s) fun r1 =>
 some ((s.1,(s.2.1,(s.2.1,s.2.2.2))),((((List.length r1):Nat):Int),0))):=by kernel_rfl
theorem m1w (n:Nat) (s:a0w):m0l (n+1) s =
 a0a (c0w n s.1) fun r0 =>
 tif ((!(decide (r0=0)))) (
 some (((0,((0,(0,0)),((0,(0,0)),(0,0)))),(0,(0,[]))),2)) (
 tif ((!(decide ((((List.length s.2.2.2):Nat):Int)=s.1.2.2.2.1)))) (
 some (((0,((0,(0,0)),((0,(0,0)),(0,0)))),(0,(0,[]))),2)) (
 some (s,0))):=by kernel_rfl
theorem u0o (n:Nat) (v:a0w) (i:Int):d0n (n+1) v i =
 a0a (at? v.2.2.2 i) fun r0 =>
 a0a (s0q n r0) fun r1 =>
 tif ((!r1)) (
 tif ((decide (v.2.2.1=((-1):Int)))) (
 some true) (
 a0a (m0r n v.1 r0.2.1 v.2.2.1) fun r2 =>
 some (!r2))) (
 some false):=by kernel_rfl
theorem b1s (n:Nat) (l:(List a0m)):r0r (n+1) l =
 tif ((decide ((4096:Int)<(((List.length l):Nat):Int)))) (
 some (6:Int)) (
 a0a (h0p n a0b (l,(l,((((List.length l):Nat):Int),(0,()))))) fun r0 =>
 c0t (fun y1 =>
 a0a (g0h n a0b (y1.1,(1,()))) fun r2 =>
 c0t (fun y3 =>
 some (0:Int)) (fun z4 =>
 some z4) r2) (fun z5 =>
 some z5) r0):=by kernel_rfl
theorem l0t (n f:Nat) (l:(List a0m)) (s10:(List a0m)) (s11:Int) (s12:Int):h0p n (f+1) (l,s10,s11,s12,()) =
 tif ((decide (s12<s11))) (
 a0a (at? s10 s12) fun r0 =>
 a0a (d0b n r0) fun r1 =>
 tif ((!(decide (r1=0)))) (
 some (.inr r1)) (
 h0p n f (l,(s10,(s11,((IntKind.wrap .i64 (s12+1)),())))))) (
 some (.inl (l,()))):=by kernel_rfl
theorem g0g (n f:Nat) (l:(List a0m)) (i:Int):g0h n (f+1) (l,i,()) =
 tif ((decide (i<(((List.length l):Nat):Int)))) (
 a0a (at? l (IntKind.wrap .i64 (i-1))) fun r0 =>
 a0a (at? l i) fun r1 =>
 a0a (f0x n r0 r1) fun r2 =>
 tif ((!r2)) (
 some (.inr (9:Int))) (
 g0h n f (l,((IntKind.wrap .i64 (i+1)),())))) (
 some (.inl ())):=by kernel_rfl
theorem q0h (n:Nat) (w:(List Int)) (n_:Int):a0o (n+1) w n_ =
 a0a (d0r n a0b (w,(n_,()))) fun r0 =>
 c0t (fun y1 =>
 tif ((decide ((((List.length y1.1)+1)*1)≤140737488355328))) (
 some (y1.1++((IntKind.wrap .u8 y1.2.1)::[]))) (
 none)) (fun z2 =>
 some z2) r0:=by kernel_rfl
theorem n0j (n f:Nat) (w:(List Int)) (n_:Int):d0r n (f+1) (w,n_,()) =
 tif ((decide ((128:Int)≤n_))) (
 tif ((decide ((((List.length w)+1)*1)≤140737488355328))) (
 d0r n f ((w++((orI .u8 (IntKind.wrap .u8 n_) (128:Int))::[])),((shrI .u64 n_ (7:Int)),()))) (
 none)) (
 some (.inl (w,(n_,())))):=by kernel_rfl
theorem t0y (n:Nat) (x:(Int×Int)) (w:(List Int)) (e:a0m):j0z (n+1) x w e =
 tif (e.2.2.2) (
 tif ((decide ((0:Int)<e.2.2.1))) (
 a0a (a0o n w (orI .u64 (orI .u64 (IntKind.wrap .u64 ((4:Int)*(IntKind.wrap .u64 (IntKind.wrap .i64 (e.1-x.1))))) (1:Int)) (2:Int))) fun r0 =>
 tif ((!e.2.2.2)) (
 a0a (d0f n r0 (IntKind.wrap .i64 (IntKind.wrap .u64 (e.2.1-x.2)))) fun r1 =>
 tif ((decide ((0:Int)<e.2.2.1))) (
 a0a (a0o n r1 (IntKind.wrap .u64 (IntKind.wrap .i64 (e.1-e.2.2.1)))) fun r2 =>
 some ((e.1,e.2.1),r2)) (
 some ((e.1,e.2.1),r1))) (
 tif ((decide ((0:Int)<e.2.2.1))) (
 a0a (a0o n r0 (IntKind.wrap .u64 (IntKind.wrap .i64 (e.1-e.2.2.1)))) fun r3 =>
 some ((e.1,x.2),r3)) (
 some ((e.1,x.2),r0)))) (
 a0a (a0o n w (orI .u64 (IntKind.wrap .u64 ((4:Int)*(IntKind.wrap .u64 (IntKind.wrap .i64 (e.1-x.1))))) (1:Int))) fun r4 =>
 tif ((!e.2.2.2)) (
 a0a (d0f n r4 (IntKind.wrap .i64 (IntKind.wrap .u64 (e.2.1-x.2)))) fun r5 =>
 tif ((decide ((0:Int)<e.2.2.1))) (
 a0a (a0o n r5 (IntKind.wrap .u64 (IntKind.wrap .i64 (e.1-e.2.2.1)))) fun r6 =>
 some ((e.1,e.2.1),r6)) (
 some ((e.1,e.2.1),r5))) (
 tif ((decide ((0:Int)<e.2.2.1))) (
 a0a (a0o n r4 (IntKind.wrap .u64 (IntKind.wrap .i64 (e.1-e.2.2.1)))) fun r7 =>
 some ((e.1,x.2),r7)) (
 some ((e.1,x.2),r4))))) (
 tif ((decide ((0:Int)<e.2.2.1))) (
 a0a (a0o n w (orI .u64 (IntKind.wrap .u64 ((4:Int)*(IntKind.wrap .u64 (IntKind.wrap .i64 (e.1-x.1))))) (2:Int))) fun r8 =>
 tif ((!e.2.2.2)) (
 a0a (d0f n r8 (IntKind.wrap .i64 (IntKind.wrap .u64 (e.2.1-x.2)))) fun r9 =>
 tif ((decide ((0:Int)<e.2.2.1))) (
 a0a (a0o n r9 (IntKind.wrap .u64 (IntKind.wrap .i64 (e.1-e.2.2.1)))) fun r10 =>
 some ((e.1,e.2.1),r10)) (
 some ((e.1,e.2.1),r9))) (
 tif ((decide ((0:Int)<e.2.2.1))) (
 a0a (a0o n r8 (IntKind.wrap .u64 (IntKind.wrap .i64 (e.1-e.2.2.1)))) fun r11 =>
 some ((e.1,x.2),r11)) (
 some ((e.1,x.2),r8)))) (
 a0a (a0o n w (IntKind.wrap .u64 ((4:Int)*(IntKind.wrap .u64 (IntKind.wrap .i64 (e.1-x.1)))))) fun r12 =>
 tif ((!e.2.2.2)) (
 a0a (d0f n r12 (IntKind.wrap .i64 (IntKind.wrap .u64 (e.2.1-x.2)))) fun r13 =>
 tif ((decide ((0:Int)<e.2.2.1))) (
 a0a (a0o n r13 (IntKind.wrap .u64 (IntKind.wrap .i64 (e.1-e.2.2.1)))) fun r14 =>
 some ((e.1,e.2.1),r14)) (
 some ((e.1,e.2.1),r13))) (
 tif ((decide ((0:Int)<e.2.2.1))) (
 a0a (a0o n r12 (IntKind.wrap .u64 (IntKind.wrap .i64 (e.1-e.2.2.1)))) fun r15 =>
 some ((e.1,x.2),r15)) (
 some ((e.1,x.2),r12))))):=by kernel_rfl
theorem r0t (n:Nat) (w:(List Int)):f0n (n+1) w =
 some ((List.map (fun y0=>(UInt8.ofNat (Int.toNat y0))) w),w):=by kernel_rfl
theorem o0y (n:Nat) (w:(List Int)) (width:Int) (n_:Int):g0j (n+1) w width n_ =
 tif ((decide (width<1))) (
 some w) (
 tif ((decide ((8:Int)<width))) (
 some w) (
 a0a (e0t n a0b (w,(n_,((IntKind.wrap .i64 ((8:Int)*(IntKind.wrap .i64 (width-1)))),())))) fun r0 =>
 c0t (fun y1 =>
 some y1.1) (fun z2 =>
 some z2) r0)):=by kernel_rfl
theorem f0y (n f:Nat) (w:(List Int)) (n_:Int) (up:Int):e0t n (f+1) (w,n_,up,()) =
 tif ((decide ((0:Int)≤up))) (
 tif ((decide (up<0))) (
 none) (
 tif ((decide ((((List.length w)+1)*1)≤140737488355328))) (
 e0t n f ((w++((IntKind.wrap .u8 (shrI .u64 n_ up))::[])),(n_,((IntKind.wrap .i64 (up-8)),())))) (
 none))) (
 some (.inl (w,()))):=by kernel_rfl
theorem q0i (n:Nat) (w:(List Int)) (s:List UInt8):l0w (n+1) w s =
 a0a (a0o n w (IntKind.wrap .u64 (((List.length s):Nat):Int))) fun r0 =>
 a0a (i0c n r0 s) fun r1 =>
 some r1:=by kernel_rfl
theorem j1k (n:Nat) (s:List UInt8):t0e (n+1) s =
 a0a (f1h n s) fun r0 =>
 a0a (f0u n a0b (r0,((0,(0,(0,0))),(0,())))) fun r1 =>
 c0t (fun y2 =>
 some (List.map (fun y3=>(UInt8.ofNat (Int.toNat y3))) (List.drop 0 (List.take 4 (y2.1.1::(y2.1.2.1::(y2.1.2.2.1::(y2.1.2.2.2::[])))))))) (fun z4 =>
 some z4) r1:=by kernel_rfl
theorem e0p (n f:Nat) (n_:Int) (b:(Int×(Int×(Int×Int)))) (s8:Int):f0u n (f+1) (n_,b,s8,()) =
 tif ((decide (s8<4))) (
 tif ((decide ((IntKind.wrap .i64 ((8:Int)*s8))<0))) (
 none) (
 tif ((decide (s8=0))) (
 f0u n f (n_,(((IntKind.wrap .u8 (shrI .u32 n_ (IntKind.wrap .i64 ((8:Int)*s8)))),b.2),((IntKind.wrap .i64 (s8+1)),())))) (
 tif ((decide (s8=1))) (
 f0u n f (n_,((b.1,((IntKind.wrap .u8 (shrI .u32 n_ (IntKind.wrap .i64 ((8:Int)*s8)))),b.2.2)),((IntKind.wrap .i64 (s8+1)),())))) (
 tif ((decide (s8=2))) (
 f0u n f (n_,((b.1,(b.2.1,((IntKind.wrap .u8 (shrI .u32 n_ (IntKind.wrap .i64 ((8:Int)*s8)))),b.2.2.2))),((IntKind.wrap .i64 (s8+1)),())))) (
 tif ((decide (s8=3))) (
 f0u n f (n_,((b.1,(b.2.1,(b.2.2.1,(IntKind.wrap .u8 (shrI .u32 n_ (IntKind.wrap .i64 ((8:Int)*s8))))))),((IntKind.wrap .i64 (s8+1)),())))) (
 none)))))) (
 some (.inl (b,()))):=by kernel_rfl
theorem j1m (n:Nat) (s:List UInt8):j1n (n+1) s =
 tif ((s==[])) (
 some (0,([],([],5)))) (
 tif ((decide (1≤(List.length s)))) (
 a0a (r0i n (List.drop 1 (List.take (List.length s) s))) fun r0 =>
 tif ((!(decide (r0.2.2=0)))) (
 some (0,([],([],r0.2.2)))) (
 tif ((decide ((IntKind.wrap .i64 ((((List.length s):Nat):Int)-(IntKind.wrap .i64 ((IntKind.wrap .i64 ((1:Int)+r0.2.1))+r0.1))))<4))) (
 some (0,([],([],5)))) (
 tif (((decide ((0:Int)≤(IntKind.wrap .i64 ((IntKind.wrap .i64 ((1:Int)+r0.2.1))+r0.1))))&&(decide ((IntKind.wrap .i64 ((IntKind.wrap .i64 ((1:Int)+r0.2.1))+r0.1))≤(((List.length s):Nat):Int))))) (
 a0a (t0e n (List.drop 0 (List.take (Int.toNat (IntKind.wrap .i64 ((IntKind.wrap .i64 ((1:Int)+r0.2.1))+r0.1))) s))) fun r1 =>
 tif ((decide ((0:Int)≤(IntKind.wrap .i64 ((IntKind.wrap .i64 ((1:Int)+r0.2.1))+r0.1))))) (
 tif (((decide ((((Int.toNat (IntKind.wrap .i64 ((IntKind.wrap .i64 ((1:Int)+r0.2.1))+r0.1))):Nat):Int)≤(IntKind.wrap .i64 ((IntKind.wrap .i64 ((IntKind.wrap .i64 ((1:Int)+r0.2.1))+r0.1))+4))))&&(decide ((IntKind.wrap .i64 ((IntKind.wrap .i64 ((IntKind.wrap .i64 ((1:Int)+r0.2.1))+r0.1))+4))≤(((List.length s):Nat):Int))))) (
 tif ((!(r1==(List.drop (Int.toNat (IntKind.wrap .i64 ((IntKind.wrap .i64 ((1:Int)+r0.2.1))+r0.1))) (List.take (Int.toNat (IntKind.wrap .i64 ((IntKind.wrap .i64 ((IntKind.wrap .i64 ((1:Int)+r0.2.1))+r0.1))+4))) s))))) (
 some (0,([],([],4)))) (
 a0a (at? s (0:Int)) fun r2 =>
 tif ((decide ((0:Int)≤(IntKind.wrap .i64 ((1:Int)+r0.2.1))))) (
 tif (((decide ((((Int.toNat (IntKind.wrap .i64 ((1:Int)+r0.2.1))):Nat):Int)≤(IntKind.wrap .i64 ((IntKind.wrap .i64 ((1:Int)+r0.2.1))+r0.1))))&&(decide ((IntKind.wrap .i64 ((IntKind.wrap .i64 ((1:Int)+r0.2.1))+r0.1))≤(((List.length s):Nat):Int))))) (
 tif ((decide ((0:Int)≤(IntKind.wrap .i64 ((IntKind.wrap .i64 ((IntKind.wrap .i64 ((1:Int)+r0.2.1))+r0.1))+4))))) (
 tif ((decide ((Int.toNat (IntKind.wrap .i64 ((IntKind.wrap .i64 ((IntKind.wrap .i64 ((1:Int)+r0.2.1))+r0.1))+4)))≤(List.length s)))) (
 some ((((UInt8.toNat r2):Nat):Int),((List.drop (Int.toNat (IntKind.wrap .i64 ((1:Int)+r0.2.1))) (List.take (Int.toNat (IntKind.wrap .i64 ((IntKind.wrap .i64 ((1:Int)+r0.2.1))+r0.1))) s)),((List.drop (Int.toNat (IntKind.wrap .i64 ((IntKind.wrap .i64 ((IntKind.wrap .i64 ((1:Int)+r0.2.1))+r0.1))+4))) (List.take (List.length s) s)),0)))) (
 none)) (
 none)) (
 none)) (
 none))) (
 none)) (
 none)) (
 none)))) (
 none)):=by kernel_rfl
theorem u0d (n:Nat) (s:List UInt8):v0t (n+1) s =
 some (s,false):=by kernel_rfl
theorem q0j (n:Nat) (r:(List UInt8×Bool)):b0r (n+1) r =
 a0a (c0o n a0b (r,(0,((if (10:Int)<(((List.length r.1):Nat):Int) then (10:Int) else (((List.length r.1):Nat):Int)),(0,()))))) fun r0 =>
 c0t (fun y1 =>
 a0a (v0s n y1.1) fun r2 =>
 some (0,r2)) (fun z3 =>
 some z3) r0:=by kernel_rfl
theorem n0k (n f:Nat) (r:(List UInt8×Bool)) (n_:Int) (s11:Int) (s12:Int):c0o n (f+1) (r,n_,s11,s12,()) =
 tif ((decide (s12<s11))) (
 a0a (at? r.1 s12) fun r0 =>
 tif ((decide ((IntKind.wrap .i64 ((7:Int)*s12))<0))) (
 none) (
 tif ((decide (s12=9))) (
 tif ((decide ((1:Int)<(((UInt8.toNat r0):Nat):Int)))) (
 some (.inl (r,()))) (
 tif ((!(decide ((andI .u8 (((UInt8.toNat r0):Nat):Int) (128:Int))=0)))) (
 c0o n f (r,((orI .u64 n_ (shlI .u64 (IntKind.wrap .u64 (n0o .u8 (((UInt8.toNat r0):Nat):Int) (128:Int))) (IntKind.wrap .i64 ((7:Int)*s12)))),(s11,((IntKind.wrap .i64 (s12+1)),()))))) (
 tif ((decide ((((UInt8.toNat r0):Nat):Int)=0))) (
 tif ((decide ((0:Int)<s12))) (
 some (.inl (r,()))) (
 tif ((decide ((0:Int)≤(IntKind.wrap .i64 (s12+1))))) (
 tif ((decide ((Int.toNat (IntKind.wrap .i64 (s12+1)))≤(List.length r.1)))) (
 some (.inr ((orI .u64 n_ (shlI .u64 (IntKind.wrap .u64 (n0o .u8 (((UInt8.toNat r0):Nat):Int) (128:Int))) (IntKind.wrap .i64 ((7:Int)*s12)))),((List.drop (Int.toNat (IntKind.wrap .i64 (s12+1))) (List.take (List.length r.1) r.1)),r.2)))) (
 none)) (
 none))) (
 tif ((decide ((0:Int)≤(IntKind.wrap .i64 (s12+1))))) (
 tif ((decide ((Int.toNat (IntKind.wrap .i64 (s12+1)))≤(List.length r.1)))) (
 some (.inr ((orI .u64 n_ (shlI .u64 (IntKind.wrap .u64 (n0o .u8 (((UInt8.toNat r0):Nat):Int) (128:Int))) (IntKind.wrap .i64 ((7:Int)*s12)))),((List.drop (Int.toNat (IntKind.wrap .i64 (s12+1))) (List.take (List.length r.1) r.1)),r.2)))) (
 none)) (
 none))))) (
 tif ((!(decide ((andI .u8 (((UInt8.toNat r0):Nat):Int) (128:Int))=0)))) (
 c0o n f (r,((orI .u64 n_ (shlI .u64 (IntKind.wrap .u64 (n0o .u8 (((UInt8.toNat r0):Nat):Int) (128:Int))) (IntKind.wrap .i64 ((7:Int)*s12)))),(s11,((IntKind.wrap .i64 (s12+1)),()))))) (
 tif ((decide ((((UInt8.toNat r0):Nat):Int)=0))) (
 tif ((decide ((0:Int)<s12))) (
 some (.inl (r,()))) (
 tif ((decide ((0:Int)≤(IntKind.wrap .i64 (s12+1))))) (
 tif ((decide ((Int.toNat (IntKind.wrap .i64 (s12+1)))≤(List.length r.1)))) (
 some (.inr ((orI .u64 n_ (shlI .u64 (IntKind.wrap .u64 (n0o .u8 (((UInt8.toNat r0):Nat):Int) (128:Int))) (IntKind.wrap .i64 ((7:Int)*s12)))),((List.drop (Int.toNat (IntKind.wrap .i64 (s12+1))) (List.take (List.length r.1) r.1)),r.2)))) (
 none)) (
 none))) (
 tif ((decide ((0:Int)≤(IntKind.wrap .i64 (s12+1))))) (
 tif ((decide ((Int.toNat (IntKind.wrap .i64 (s12+1)))≤(List.length r.1)))) (
 some (.inr ((orI .u64 n_ (shlI .u64 (IntKind.wrap .u64 (n0o .u8 (((UInt8.toNat r0):Nat):Int) (128:Int))) (IntKind.wrap .i64 ((7:Int)*s12)))),((List.drop (Int.toNat (IntKind.wrap .i64 (s12+1))) (List.take (List.length r.1) r.1)),r.2)))) (
 none)) (
 none)))))) (
 some (.inl (r,()))):=by kernel_rfl
theorem f0p (n:Nat) (r:(List UInt8×Bool)):d0g (n+1) r =
 some r.2:=by kernel_rfl
theorem v0o (n:Nat) (x:(Int×Int)) (r:(List UInt8×Bool)):k0y (n+1) x r =
 a0a (b0r n r) fun r0 =>
 tif ((!(!(decide ((andI .u64 r0.1 (1:Int))=0))))) (
 a0a (i0d n r0.2) fun r1 =>
 tif ((!(decide ((andI .u64 r0.1 (2:Int))=0)))) (
 a0a (b0r n r1.2) fun r2 =>
 some (((IntKind.wrap .i64 (x.1+(IntKind.wrap .i64 (IntKind.wrap .u64 (Int.tdiv r0.1 (4:Int)))))),((IntKind.wrap .u64 (x.2+(IntKind.wrap .u64 r1.1))),((IntKind.wrap .i64 ((IntKind.wrap .i64 (x.1+(IntKind.wrap .i64 (IntKind.wrap .u64 (Int.tdiv r0.1 (4:Int))))))-(IntKind.wrap .i64 r2.1))),(!(decide ((andI .u64 r0.1 (1:Int))=0)))))),(((IntKind.wrap .i64 (x.1+(IntKind.wrap .i64 (IntKind.wrap .u64 (Int.tdiv r0.1 (4:Int)))))),(IntKind.wrap .u64 (x.2+(IntKind.wrap .u64 r1.1)))),r2.2))) (
 some (((IntKind.wrap .i64 (x.1+(IntKind.wrap .i64 (IntKind.wrap .u64 (Int.tdiv r0.1 (4:Int)))))),((IntKind.wrap .u64 (x.2+(IntKind.wrap .u64 r1.1))),(0,(!(decide ((andI .u64 r0.1 (1:Int))=0)))))),(((IntKind.wrap .i64 (x.1+(IntKind.wrap .i64 (IntKind.wrap .u64 (Int.tdiv r0.1 (4:Int)))))),(IntKind.wrap .u64 (x.2+(IntKind.wrap .u64 r1.1)))),r1.2)))) (
 tif ((!(decide ((andI .u64 r0.1 (2:Int))=0)))) (
 a0a (b0r n r0.2) fun r3 =>
 some (((IntKind.wrap .i64 (x.1+(IntKind.wrap .i64 (IntKind.wrap .u64 (Int.tdiv r0.1 (4:Int)))))),(0,((IntKind.wrap .i64 ((IntKind.wrap .i64 (x.1+(IntKind.wrap .i64 (IntKind.wrap .u64 (Int.tdiv r0.1 (4:Int))))))-(IntKind.wrap .i64 r3.1))),(!(decide ((andI .u64 r0.1 (1:Int))=0)))))),(((IntKind.wrap .i64 (x.1+(IntKind.wrap .i64 (IntKind.wrap .u64 (Int.tdiv r0.1 (4:Int)))))),x.2),r3.2))) (
 some (((IntKind.wrap .i64 (x.1+(IntKind.wrap .i64 (IntKind.wrap .u64 (Int.tdiv r0.1 (4:Int)))))),(0,(0,(!(decide ((andI .u64 r0.1 (1:Int))=0)))))),(((IntKind.wrap .i64 (x.1+(IntKind.wrap .i64 (IntKind.wrap .u64 (Int.tdiv r0.1 (4:Int)))))),x.2),r0.2)))):=by kernel_rfl
theorem u0b (n:Nat) (c:b0b):c0w (n+1) c =
 a0a (e0s n c.1 (1:Int) (4096:Int)) fun r0 =>
 tif (r0) (
 a0a (e0s n c.2.2.2.1 (1:Int) (65536:Int)) fun r1 =>
 tif (r1) (
 a0a (e0s n c.2.2.2.2 (1:Int) (8192:Int)) fun r2 =>
 tif (r2) (
 a0a (g0i n c.2.1.1 (1:Int) (1099511627776:Int)) fun r3 =>
 tif (r3) (
 a0a (e0s n c.2.2.1.1 (1:Int) (4096:Int)) fun r4 =>
 tif (r4) (
 a0a (g0i n c.2.1.2.1 (1:Int) (1099511627776:Int)) fun r5 =>
 tif (r5) (
 a0a (e0s n c.2.2.1.2.1 (1:Int) (4096:Int)) fun r6 =>
 tif (r6) (
 a0a (g0i n c.2.1.2.2 (1:Int) (1099511627776:Int)) fun r7 =>
 tif (r7) (
 a0a (e0s n c.2.2.1.2.2 (1:Int) (4096:Int)) fun r8 =>
 tif (r8) (
 tif ((decide (c.2.1.1=0))) (
 none) (
 tif ((decide ((Int.tmod c.2.1.2.1 c.2.1.1)=0))) (
 tif ((decide (c.2.1.1=0))) (
 none) (
 tif ((decide ((IntKind.wrap .i64 (Int.tdiv c.2.1.2.1 c.2.1.1))≤c.2.2.1.1))) (
 tif ((decide (c.2.1.2.1=0))) (
 none) (
 tif ((decide ((Int.tmod c.2.1.2.2 c.2.1.2.1)=0))) (
 tif ((decide (c.2.1.2.1=0))) (
 none) (
 tif ((decide ((IntKind.wrap .i64 (Int.tdiv c.2.1.2.2 c.2.1.2.1))≤c.2.2.1.2.1))) (
 tif ((!(decide ((IntKind.wrap .i64 (Int.tdiv c.2.1.2.2 c.2.1.2.1))≤c.2.2.1.2.1)))) (
 some (2:Int)) (
 a0a (h0b n c) fun r9 =>
 tif ((decide (c.2.2.2.2≤r9))) (
 some (2:Int)) (
 some (0:Int)))) (
 tif ((!(decide ((IntKind.wrap .i64 (Int.tdiv c.2.1.2.2 c.2.1.2.1))≤c.2.2.1.2.1)))) (
 some (2:Int)) (
 a0a (h0b n c) fun r10 =>
 tif ((decide (c.2.2.2.2≤r10))) (
 some (2:Int)) (
 some (0:Int)))))) (
 some (2:Int)))) (
 tif ((!(decide ((IntKind.wrap .i64 (Int.tdiv c.2.1.2.1 c.2.1.1))≤c.2.2.1.1)))) (
 some (2:Int)) (
 a0a (h0b n c) fun r11 =>
 tif ((decide (c.2.2.2.2≤r11))) (
 some (2:Int)) (
 some (0:Int)))))) (
 some (2:Int)))) (
 tif ((!r8)) (
 some (2:Int)) (
 a0a (h0b n c) fun r12 =>
 tif ((decide (c.2.2.2.2≤r12))) (
 some (2:Int)) (
 some (0:Int))))) (
 some (2:Int))) (
 some (2:Int))) (
 some (2:Int))) (
 some (2:Int))) (
 some (2:Int))) (
 some (2:Int))) (
 some (2:Int))) (
 some (2:Int)):=by kernel_rfl
theorem b1i (n:Nat) (l:(List (List UInt8×List UInt8))):j0x (n+1) l =
 tif ((decide ((((List.length l):Nat):Int)=0))) (
 some (8:Int)) (
 tif ((decide ((16:Int)<(((List.length l):Nat):Int)))) (
 some (8:Int)) (
 a0a (e0h n a0b (l,(256,(l,((((List.length l):Nat):Int),(0,())))))) fun r0 =>
 c0t (fun y1 =>
 some (0:Int)) (fun z2 =>
 some z2) r0)):=by kernel_rfl
theorem l0o (n f:Nat) (l:(List (List UInt8×List UInt8))) (left:Int) (s14:(List (List UInt8×List UInt8))) (s15:Int) (s16:Int):e0h n (f+1) (l,left,s14,s15,s16,()) =
 tif ((decide (s16<s15))) (
 a0a (at? s14 s16) fun r0 =>
 a0a (v0g n r0.1) fun r1 =>
 tif ((!r1)) (
 some (.inr (8:Int))) (
 tif ((decide ((128:Int)<(((List.length r0.2):Nat):Int)))) (
 some (.inr (8:Int))) (
 tif ((decide ((IntKind.wrap .i64 (left-(IntKind.wrap .i64 ((((List.length r0.1):Nat):Int)+(((List.length r0.2):Nat):Int)))))<0))) (
 some (.inr (8:Int))) (
 tif ((decide ((0:Int)<s16))) (
 a0a (at? l (IntKind.wrap .i64 (s16-1))) fun r2 =>
 tif ((!(Go.Op.bytesLess r2.1 r0.1))) (
 some (.inr (8:Int))) (
 e0h n f (l,((IntKind.wrap .i64 (left-(IntKind.wrap .i64 ((((List.length r0.1):Nat):Int)+(((List.length r0.2):Nat):Int))))),(s14,(s15,((IntKind.wrap .i64 (s16+1)),()))))))) (
 e0h n f (l,((IntKind.wrap .i64 (left-(IntKind.wrap .i64 ((((List.length r0.1):Nat):Int)+(((List.length r0.2):Nat):Int))))),(s14,(s15,((IntKind.wrap .i64 (s16+1)),())))))))))) (
 some (.inl ())):=by kernel_rfl
theorem u0t (n:Nat) (s:(List (List UInt8×List UInt8))):k0t (n+1) s =
 tif ((decide ((List.length s)=0))) (
 both (
 some []) (
 tif ((decide (((0+(List.length s))*32)≤140737488355328))) (
 some ([]++s)) (
 none))) (
 tif ((decide (((0+(List.length s))*32)≤140737488355328))) (
 some ([]++s)) (
 none)):=by kernel_rfl
theorem g1i (n:Nat) (c:b0b):v0i (n+1) c =
 a0a (c0w n c) fun r0 =>
 tif ((!(decide (r0=0)))) (
 some ([],([],[]))) (
 a0a (s0l n c.2.2.1.1) fun r1 =>
 a0a (s0l n c.2.2.1.2.1) fun r2 =>
 a0a (s0l n c.2.2.1.2.2) fun r3 =>
 some (r1,(r2,r3))):=by kernel_rfl
theorem a1w (n:Nat) (c:b0b) (s:c0f):m0q (n+1) c s =
 a0a (v0k n c s.2.2.2.1) fun r0 =>
 tif ((!(decide (r0=0)))) (
 some (none,2)) (
 a0a (j0x n s.1) fun r1 =>
 tif ((!(decide (r1=0)))) (
 some (none,2)) (
 a0a (t0h n s.2.2.1 c.1) fun r2 =>
 tif ((!(decide (r2=0)))) (
 some (none,2)) (
 tif ((decide (s.2.1=((-1):Int)))) (
 a0a (y0n n (c,s)) fun r3 =>
 tif (r3) (
 some ((some (c,s)),0)) (
 tif ((!(decide (s.2.1=((-1):Int))))) (
 a0a (x0k n (c,s)) fun r4 =>
 tif (r4) (
 some ((some (c,s)),0)) (
 some (none,2))) (
 some (none,2)))) (
 tif ((!(decide (s.2.1=((-1):Int))))) (
 a0a (x0k n (c,s)) fun r5 =>
 tif (r5) (
 some ((some (c,s)),0)) (
 some (none,2))) (
 some (none,2)))))):=by kernel_rfl
theorem b1o (n:Nat) (e:a0m):d0b (n+1) e =
 tif ((decide (e.1<0))) (
 some (2:Int)) (
 tif ((decide ((35184372088832:Int)≤e.1))) (
 some (2:Int)) (
 tif ((decide (e.2.2.1<0))) (
 some (2:Int)) (
 tif ((decide (e.1<e.2.2.1))) (
 some (2:Int)) (
 tif (e.2.2.2) (
 tif ((!((decide (e.1=e.1))&&((decide (e.2.1=0))&&((decide (e.2.2.1=0))&&(e.2.2.2==true)))))) (
 some (2:Int)) (
 some (0:Int))) (
 some (0:Int)))))):=by kernel_rfl
theorem n1g (n:Nat) (s:c0e) (i:Int):f1b (n+1) s i =
 tif ((decide (s.2.2.2.2.2.1=i))) (
 some (0,s)) (
 tif ((decide (s.2.2.2.2.2.2.1=0))) (
 some (0,s)) (
 a0a (v0j n s.1 s.2.2.2.2.1 s.2.2.2.2.2 i) fun r0 =>
 tif ((decide (r0.2=0))) (
 some (r0.2,(s.1,(s.2.1,(s.2.2.1,(s.2.2.2.1,(r0.1,(0,(0,((0,(0,(0,false))),((0,(0,(0,false))),((0,0),(0,(0,0)))))))))))))) (
 some (r0.2,s)))):=by kernel_rfl
theorem s1x (n:Nat) (s:c0e) (i:Int) (e:a0m):x1o (n+1) s i e =
 a0a (n1y n s.2.2.2.1 s.1.1 e) fun r0 =>
 a0a (i1g n s.2.2.2.2.2.2 e) fun r1 =>
 tif ((!(decide (r0.2=0)))) (
 some (r0.2,s)) (
 some (r1.2,(s.1,(s.2.1,(e.1,(r0.1,(s.2.2.2.2.1,(i,r1.1)))))))):=by kernel_rfl
theorem t0p (n:Nat) (a:(List (List UInt8×List UInt8))) (b:(List (List UInt8×List UInt8))):l0n (n+1) a b =
 a0a (k0r n a b) fun r0 =>
 some r0:=by kernel_rfl
theorem n1x (n:Nat) (a:(Int×(Int×(List a0m)))) (b:(Int×(Int×(List a0m)))):q1r (n+1) a b =
 tif ((decide (a.1=b.1))) (
 tif ((decide (a.2.1=b.2.1))) (
 a0a (k0s n a.2.2 b.2.2) fun r0 =>
 some r0) (
 some false)) (
 some false):=by kernel_rfl
theorem w0x (n:Nat) (s1:(List a0c)) (s2:(List a0c)):g0b (n+1) s1 s2 =
 tif ((!(decide ((((List.length s1):Nat):Int)=(((List.length s2):Nat):Int))))) (
 some false) (
 a0a (f0m n a0b (s1,(s2,((((List.length s1):Nat):Int),(0,()))))) fun r0 =>
 c0t (fun y1 =>
 some true) (fun z2 =>
 some z2) r0):=by kernel_rfl
theorem j0q (n f:Nat) (s1:(List a0c)) (s2:(List a0c)) (s12:Int) (s13:Int):f0m n (f+1) (s1,s2,s12,s13,()) =
 tif ((decide (s13<s12))) (
 a0a (at? s1 s13) fun r0 =>
 a0a (at? s2 s13) fun r1 =>
 tif ((!((decide (r0.1=r1.1))&&((decide (r0.2.1=r1.2.1))&&((decide (r0.2.2.1.1=r1.2.2.1.1))&&((decide (r0.2.2.1.2.1=r1.2.2.1.2.1))&&((decide (r0.2.2.1.2.2.1=r1.2.2.1.2.2.1))&&((r0.2.2.1.2.2.2==r1.2.2.1.2.2.2)&&((decide (r0.2.2.2.1.1=r1.2.2.2.1.1))&&((decide (r0.2.2.2.1.2.1=r1.2.2.2.1.2.1))&&((decide (r0.2.2.2.1.2.2.1=r1.2.2.2.1.2.2.1))&&((r0.2.2.2.1.2.2.2==r1.2.2.2.1.2.2.2)&&((decide (r0.2.2.2.2.1.1=r1.2.2.2.2.1.1))&&((decide (r0.2.2.2.2.1.2=r1.2.2.2.2.1.2))&&((decide (r0.2.2.2.2.2.1=r1.2.2.2.2.2.1))&&((decide (r0.2.2.2.2.2.2.1=r1.2.2.2.2.2.2.1))&&(decide (r0.2.2.2.2.2.2.2=r1.2.2.2.2.2.2.2)))))))))))))))))) (
 some (.inr false)) (
 f0m n f (s1,(s2,(s12,((IntKind.wrap .i64 (s13+1)),())))))) (
 some (.inl ())):=by kernel_rfl
theorem h1y (n:Nat) (c:b0b):v0q (n+1) c =
 a0a (c0w n c) fun r0 =>
 tif ((!(decide (r0=0)))) (
 some (0:Int)) (
 a0a (h0b n c) fun r1 =>
 some r1):=by kernel_rfl
theorem l1l (n:Nat) (c:b0b):a1b (n+1) c =
 a0a (c0w n c) fun r0 =>
 tif ((!(decide (r0=0)))) (
 some (0:Int)) (
 a0a (v0r n c) fun r1 =>
 some (IntKind.wrap .i64 ((IntKind.wrap .i64 ((1:Int)+r1))+c.2.2.2.2))):=by kernel_rfl
end Go.Proofs.YtkajechaanmplaaGreatDoor
