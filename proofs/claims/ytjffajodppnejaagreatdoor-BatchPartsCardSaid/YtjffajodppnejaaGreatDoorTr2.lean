/- Trees, printed by program. -/
import Derived.Test.YtjffajodppnejaaGreatDoorTr0
import Derived.KernelRfl
set_option linter.unusedVariables false
namespace Go.Proofs.YtjffajodppnejaaGreatDoor
open Go.Flat
theorem p1g (n:Nat) (w:(List Int)) (l:(List Int)):l0l (n+1) w l =
 a0a (m0g n a0b (w,(l,((((List.length l):Nat):Int),(0,()))))) fun r0 =>
 b0z (fun y1 =>
 some y1.1) (fun z2 =>
 some z2) r0:=by kernel_rfl
theorem r0f (n f:Nat) (w:(List Int)) (s6:(List Int)) (s7:Int) (s8:Int):m0g n (f+1) (w,s6,s7,s8,()) =
 tif ((decide (s8<s7))) (
 a0a (at? s6 s8) fun r0 =>
 a0a (a0o n w (8:Int) (IntKind.wrap .u64 r0)) fun r1 =>
 m0g n f (r1,(s6,(s7,((IntKind.wrap .i64 (s8+1)),()))))) (
 some (.inl (w,()))):=by kernel_rfl
theorem p1f (n:Nat) (s:List UInt8) (n_:Int):f0l (n+1) s n_ =
 a0a (strings_Repeat n ((0:UInt8)::[]) (if (IntKind.wrap .i64 (n_-(((List.length s):Nat):Int)))<0 then (0:Int) else (IntKind.wrap .i64 (n_-(((List.length s):Nat):Int))))) fun r0 =>
 tif ((decide (((List.length s)+(List.length r0))≤9223372036854775807))) (
 some (s++r0)) (
 none):=by kernel_rfl
theorem l0p (n:Nat) (w:(List Int)):c0f (n+1) w =
 some ((List.map (fun y0=>(UInt8.ofNat (Int.toNat y0))) w),w):=by kernel_rfl
theorem e1w (n:Nat) (x:b0x):u0e (n+1) x =
 a0a (f0i n x ([],(0,((0,(0,[])),(([],([],[])),(0,(0,((0,(0,(0,false))),((0,(0,(0,false))),((0,0),(0,(0,0)))))))))))) fun r0 =>
 some r0:=by kernel_rfl
theorem t0u (n:Nat) (x:(List (List UInt8))) (count:Int):j0o (n+1) x count =
 tif ((decide (count<0))) (
 none) (
 a0a (p0i n (IntKind.wrap .u64 (((List.length x):Nat):Int)) (IntKind.wrap .u64 count)) fun r0 =>
 tif ((decide ((0:Int)<r0.1))) (
 none) (
 tif ((decide ((9223372036854775807:Int)<r0.2))) (
 none) (
 tif (((decide ((0:Int)≤(IntKind.wrap .i64 r0.2)))&&((decide ((IntKind.wrap .i64 r0.2)≤(IntKind.wrap .i64 r0.2)))&&(decide (((IntKind.wrap .i64 r0.2)*16)≤140737488355328))))) (
 a0a (e0r n a0b ((Go.Flat.putRow (List.replicate (Int.toNat (IntKind.wrap .i64 r0.2)) ([]:List UInt8)) 0 (List.take (List.length (List.replicate (Int.toNat (IntKind.wrap .i64 r0.2)) ([]:List UInt8))) x)),((((List.length (List.take (List.length (List.replicate (Int.toNat (IntKind.wrap .i64 r0.2)) ([]:List UInt8))) x)):Nat):Int),()))) fun r1 =>
 b0z (fun y2 =>
 some y2.1) (fun z3 =>
 some z3) r1) (
 none)))):=by kernel_rfl
theorem h0y (n f:Nat) (newslice:(List (List UInt8))) (n_:Int):e0r n (f+1) (newslice,n_,()) =
 tif ((decide (n_<(((List.length newslice):Nat):Int)))) (
 tif ((decide ((0:Int)≤n_))) (
 tif ((decide ((Int.toNat n_)≤(List.length newslice)))) (
 tif (((decide ((0:Int)≤n_))&&(decide (n_≤(((List.length newslice):Nat):Int))))) (
 tif ((decide (((Int.toNat n_)+((List.length newslice)-(Int.toNat n_)))≤(List.length newslice)))) (
 e0r n f ((Go.Flat.putRow newslice (Int.toNat n_) (List.take ((List.length newslice)-(Int.toNat n_)) (List.take ((Int.toNat n_)-0) (List.drop 0 newslice)))),((IntKind.wrap .i64 (n_+(((List.length (List.take ((List.length newslice)-(Int.toNat n_)) (List.take ((Int.toNat n_)-0) (List.drop 0 newslice)))):Nat):Int))),()))) (
 none)) (
 none)) (
 none)) (
 none)) (
 some (.inl (newslice,()))):=by kernel_rfl
theorem e1v (n:Nat) (x:b0x):u0d (n+1) x =
 a0a (u0b n x.1) fun r0 =>
 a0a (a0o n [] (2:Int) (IntKind.wrap .u64 (((List.length r0.1):Nat):Int))) fun r1 =>
 a0a (f0l n r0.1 (320:Int)) fun r2 =>
 a0a (d0o n r1 r2) fun r3 =>
 a0a (l0l n r3 (x.2.1::(x.2.2.1.1::(x.2.2.1.2.1::[])))) fun r4 =>
 a0a (a0o n r4 (2:Int) (IntKind.wrap .u64 (((List.length x.2.2.1.2.2):Nat):Int))) fun r5 =>
 a0a (i0j n x.2.2.2.2) fun r6 =>
 a0a (d0o n r5 r6) fun r7 =>
 a0a (c0f n r7) fun r8 =>
 a0a (f0l n r8.1 (512:Int)) fun r9 =>
 some (r9,r0.2):=by kernel_rfl
theorem w0i (n:Nat) (out:(List (List UInt8))) (l:(List a0m)) (each:Int) (bytes:((a0m×Unit)→Option (List UInt8))):l0m (n+1) out l each bytes =
 a0a (m0u n l each) fun r0 =>
 a0a (d0s n r0 (out,(bytes,()))) fun r1 =>
 some r1.1:=by kernel_rfl
theorem q0g (n:Nat) (x:((List (List UInt8))×(((a0m×Unit)→Option (List UInt8))×Unit))):d0s n [] x=some x:=by kernel_rfl
theorem p0l (n:Nat) (y:((List a0m)×Unit)) (r:List ((List a0m)×Unit)) (out_:(List (List UInt8))) (bytes_:((a0m×Unit)→Option (List UInt8))):d0s n (y::r) (out_,bytes_,()) =
 a0a (a0a (f0b n a0b (out_,(bytes_,([],(y.1,((((List.length y.1):Nat):Int),(0,()))))))) fun r0 =>
 b0z (fun y1 =>
 a0a (b0o n y1.2.2.1) fun r2 =>
 a0a (f0l n r2.1 (512:Int)) fun r3 =>
 tif ((decide ((((List.length y1.1)+1)*16)≤140737488355328))) (
 some ((y1.1++(r3::[])),(y1.2.1,()))) (
 none)) (fun z4 =>
 none) r0) fun r5 =>
 d0s n r r5:=by kernel_rfl
theorem j0h (n f:Nat) (out_:(List (List UInt8))) (bytes_:((a0m×Unit)→Option (List UInt8))) (b:List UInt8) (s17:(List a0m)) (s18:Int) (s19:Int):f0b n (f+1) (out_,bytes_,b,s17,s18,s19,()) =
 tif ((decide (s19<s18))) (
 a0a (at? s17 s19) fun r0 =>
 a0a (bytes_ (r0,())) fun r1 =>
 a0a (a0i n b r1) fun r2 =>
 f0b n f (out_,(bytes_,(r2.2.2,(s17,(s18,((IntKind.wrap .i64 (s19+1)),()))))))) (
 some (.inl (out_,(bytes_,(b,()))))):=by kernel_rfl
theorem e1u (n:Nat) (r:(Int×(Int×(List a0m)))) (room:Int):u0c (n+1) r room =
 tif (((decide ((0:Int)≤room))&&((decide (room≤room))&&(decide ((room*32)≤140737488355328))))) (
 a0a (i0v n a0b (room,(r,((List.replicate (Int.toNat room) (0,(0,(0,false)))),(r.2.2,((((List.length r.2.2):Nat):Int),(0,()))))))) fun r0 =>
 b0z (fun y1 =>
 some y1.1) (fun z2 =>
 some z2) r0) (
 none):=by kernel_rfl
theorem n0y (n f:Nat) (room:Int) (r_:(Int×(Int×(List a0m)))) (out:(List a0m)) (s11:(List a0m)) (s12:Int) (s13:Int):i0v n (f+1) (room,r_,out,s11,s12,s13,()) =
 tif ((decide (s13<s12))) (
 a0a (at? s11 s13) fun r0 =>
 tif ((decide (room=0))) (
 none) (
 a0a (at? out (Int.tmod (IntKind.wrap .i64 (r_.1+s13)) room)) fun r1 =>
 a0a ((out)[(Int.toNat (Int.tmod (IntKind.wrap .i64 (r_.1+s13)) room))]?) fun r2 =>
 i0v n f (room,(r_,((List.set out (Int.toNat (Int.tmod (IntKind.wrap .i64 (r_.1+s13)) room)) r0),(s11,(s12,((IntKind.wrap .i64 (s13+1)),())))))))) (
 some (.inl (out,()))):=by kernel_rfl
theorem e1z (n:Nat) (e:a0m):p0m (n+1) e =
 a0a (l0k n [] e) fun r0 =>
 a0a (c0f n r0) fun r1 =>
 a0a (f0l n r1.1 (32:Int)) fun r2 =>
 some r2:=by kernel_rfl
theorem x0z (n:Nat) (out:(List (List UInt8))) (l:(List a0c)) (each:Int) (bytes:((a0c×Unit)→Option (List UInt8))):g0m (n+1) out l each bytes =
 a0a (o0x n l each) fun r0 =>
 a0a (e0g n r0 (out,(bytes,()))) fun r1 =>
 some r1.1:=by kernel_rfl
theorem r0g (n:Nat) (x:((List (List UInt8))×(((a0c×Unit)→Option (List UInt8))×Unit))):e0g n [] x=some x:=by kernel_rfl
theorem q0f (n:Nat) (y:((List a0c)×Unit)) (r:List ((List a0c)×Unit)) (out_:(List (List UInt8))) (bytes_:((a0c×Unit)→Option (List UInt8))):e0g n (y::r) (out_,bytes_,()) =
 a0a (a0a (g0a n a0b (out_,(bytes_,([],(y.1,((((List.length y.1):Nat):Int),(0,()))))))) fun r0 =>
 b0z (fun y1 =>
 a0a (b0o n y1.2.2.1) fun r2 =>
 a0a (f0l n r2.1 (512:Int)) fun r3 =>
 tif ((decide ((((List.length y1.1)+1)*16)≤140737488355328))) (
 some ((y1.1++(r3::[])),(y1.2.1,()))) (
 none)) (fun z4 =>
 none) r0) fun r5 =>
 e0g n r r5:=by kernel_rfl
theorem j0z (n f:Nat) (out_:(List (List UInt8))) (bytes_:((a0c×Unit)→Option (List UInt8))) (b:List UInt8) (s17:(List a0c)) (s18:Int) (s19:Int):g0a n (f+1) (out_,bytes_,b,s17,s18,s19,()) =
 tif ((decide (s19<s18))) (
 a0a (at? s17 s19) fun r0 =>
 a0a (bytes_ (r0,())) fun r1 =>
 a0a (a0i n b r1) fun r2 =>
 g0a n f (out_,(bytes_,(r2.2.2,(s17,(s18,((IntKind.wrap .i64 (s19+1)),()))))))) (
 some (.inl (out_,(bytes_,(b,()))))):=by kernel_rfl
theorem l1a (n:Nat) (s:a0c):i0j (n+1) s =
 a0a (l0l n [] (s.1::(s.2.1::[]))) fun r0 =>
 a0a (l0k n r0 s.2.2.1) fun r1 =>
 a0a (l0k n r1 s.2.2.2.1) fun r2 =>
 a0a (l0l n r2 ((IntKind.wrap .i64 s.2.2.2.2.1.1)::((IntKind.wrap .i64 s.2.2.2.2.1.2)::(s.2.2.2.2.2.1::(s.2.2.2.2.2.2.1::(s.2.2.2.2.2.2.2::[])))))) fun r3 =>
 a0a (c0f n r3) fun r4 =>
 a0a (f0l n r4.1 (128:Int)) fun r5 =>
 some r5:=by kernel_rfl
theorem d1t (n:Nat) (s:a0z) (l:(List (List UInt8×List UInt8))) (e:a0m):t0w (n+1) s l e =
 a0a (n0g n s) fun r0 =>
 tif ((!(decide (r0=0)))) (
 some (0,(false,r0))) (
 a0a (i0g n l) fun r1 =>
 tif ((!(decide (r1=0)))) (
 some (0,(false,r1))) (
 a0a (e0a n e) fun r2 =>
 tif ((!(decide (r2=0)))) (
 some (0,(false,r2))) (
 a0a (x0k n s) fun r3 =>
 a0a (j1h n s l) fun r4 =>
 tif ((decide (e.1<r3.1))) (
 some (0,(false,9))) (
 tif ((decide (r3.2≤e.1))) (
 some (0,(false,9))) (
 tif ((decide (r4.2=0))) (
 a0a (at? s.2.2.2 r4.1) fun r5 =>
 tif ((decide (e.1≤r5.2.1))) (
 some (0,(false,9))) (
 tif ((decide (r4.2=0))) (
 some (r4.1,(false,0))) (
 tif (e.2.2.2) (
 some (0,(false,3))) (
 a0a (z0y n s) fun r6 =>
 some (r6.1,((decide (r6.2=0)),r6.2)))))) (
 tif ((decide (r4.2=0))) (
 some (r4.1,(false,0))) (
 tif (e.2.2.2) (
 some (0,(false,3))) (
 a0a (z0y n s) fun r7 =>
 some (r7.1,((decide (r7.2=0)),r7.2)))))))))):=by kernel_rfl
theorem d1m (n:Nat) (s:a0z) (i:Int) (fresh:Bool) (l:(List (List UInt8×List UInt8))):a1p (n+1) s i fresh l =
 tif (fresh) (
 a0a (s0c n s.1 l) fun r0 =>
 some r0) (
 a0a (at? s.2.2.2 i) fun r1 =>
 some (r1,0)):=by kernel_rfl
theorem j1o (n:Nat) (c:b0t) (s:b0x) (e:a0m):x0j (n+1) c s e =
 a0a (o0z n c s) fun r0 =>
 b1z (r0.1) (
 tif ((!(decide (r0.2=0)))) (
 some (([],(0,((0,(0,[])),(([],([],[])),(0,(0,((0,(0,(0,false))),((0,(0,(0,false))),((0,0),(0,(0,0))))))))))),2)) (
 a0a (e0a n e) fun r1 =>
 tif ((!(decide (r1=0)))) (
 some (([],(0,((0,(0,[])),(([],([],[])),(0,(0,((0,(0,(0,false))),((0,(0,(0,false))),((0,0),(0,(0,0))))))))))),2)) (
 tif ((decide (e.1≤s.2.1))) (
 some (([],(0,((0,(0,[])),(([],([],[])),(0,(0,((0,(0,(0,false))),((0,(0,(0,false))),((0,0),(0,(0,0))))))))))),9)) (
 tif ((decide (c.2.1.1=0))) (
 none) (
 none))))) fun r2 =>
 tif ((!(decide (r0.2=0)))) (
 some (([],(0,((0,(0,[])),(([],([],[])),(0,(0,((0,(0,(0,false))),((0,(0,(0,false))),((0,0),(0,(0,0))))))))))),2)) (
 a0a (e0a n e) fun r3 =>
 tif ((!(decide (r3=0)))) (
 some (([],(0,((0,(0,[])),(([],([],[])),(0,(0,((0,(0,(0,false))),((0,(0,(0,false))),((0,0),(0,(0,0))))))))))),2)) (
 tif ((decide (e.1≤s.2.1))) (
 some (([],(0,((0,(0,[])),(([],([],[])),(0,(0,((0,(0,(0,false))),((0,(0,(0,false))),((0,0),(0,(0,0))))))))))),9)) (
 tif ((decide (c.2.1.1=0))) (
 none) (
 a0a (j1j n r2 (IntKind.wrap .i64 (Int.tdiv e.1 c.2.1.1))) fun r4 =>
 tif ((!(decide (r4.1=0)))) (
 some (([],(0,((0,(0,[])),(([],([],[])),(0,(0,((0,(0,(0,false))),((0,(0,(0,false))),((0,0),(0,(0,0))))))))))),r4.1)) (
 a0a (c2u n r4.2 (IntKind.wrap .i64 (Int.tdiv e.1 c.2.1.1)) e) fun r5 =>
 tif ((!(decide (r5.1=0)))) (
 some (([],(0,((0,(0,[])),(([],([],[])),(0,(0,((0,(0,(0,false))),((0,(0,(0,false))),((0,0),(0,(0,0))))))))))),r5.1)) (
 some (r5.2.2,0))))))):=by kernel_rfl
theorem v0m (n:Nat) (s:(List b0x)):l0b (n+1) s =
 tif ((decide ((List.length s)=0))) (
 both (
 some []) (
 tif ((decide (((0+(List.length s))*264)≤140737488355328))) (
 some ([]++s)) (
 none))) (
 tif ((decide (((0+(List.length s))*264)≤140737488355328))) (
 some ([]++s)) (
 none)):=by kernel_rfl
theorem e1q (n:Nat) (l:(List (List UInt8×List UInt8))):i0g (n+1) l =
 tif ((decide ((((List.length l):Nat):Int)=0))) (
 some (8:Int)) (
 tif ((decide ((16:Int)<(((List.length l):Nat):Int)))) (
 some (8:Int)) (
 a0a (e0w n a0b (l,(256,(l,((((List.length l):Nat):Int),(0,())))))) fun r0 =>
 b0z (fun y1 =>
 some (0:Int)) (fun z2 =>
 some z2) r0)):=by kernel_rfl
theorem n0v (n f:Nat) (l:(List (List UInt8×List UInt8))) (left:Int) (s14:(List (List UInt8×List UInt8))) (s15:Int) (s16:Int):e0w n (f+1) (l,left,s14,s15,s16,()) =
 tif ((decide (s16<s15))) (
 a0a (at? s14 s16) fun r0 =>
 a0a (x0x n r0.1) fun r1 =>
 tif ((!r1)) (
 some (.inr (8:Int))) (
 tif ((decide ((128:Int)<(((List.length r0.2):Nat):Int)))) (
 some (.inr (8:Int))) (
 tif ((decide ((IntKind.wrap .i64 (left-(IntKind.wrap .i64 ((((List.length r0.1):Nat):Int)+(((List.length r0.2):Nat):Int)))))<0))) (
 some (.inr (8:Int))) (
 tif ((decide ((0:Int)<s16))) (
 a0a (at? l (IntKind.wrap .i64 (s16-1))) fun r2 =>
 tif ((!(Go.Op.bytesLess r2.1 r0.1))) (
 some (.inr (8:Int))) (
 e0w n f (l,((IntKind.wrap .i64 (left-(IntKind.wrap .i64 ((((List.length r0.1):Nat):Int)+(((List.length r0.2):Nat):Int))))),(s14,(s15,((IntKind.wrap .i64 (s16+1)),()))))))) (
 e0w n f (l,((IntKind.wrap .i64 (left-(IntKind.wrap .i64 ((((List.length r0.1):Nat):Int)+(((List.length r0.2):Nat):Int))))),(s14,(s15,((IntKind.wrap .i64 (s16+1)),())))))))))) (
 some (.inl ())):=by kernel_rfl
theorem f1i (n:Nat) (e:a0m):e0a (n+1) e =
 tif ((decide (e.1<0))) (
 some (2:Int)) (
 tif ((decide ((35184372088832:Int)≤e.1))) (
 some (2:Int)) (
 tif ((decide (e.2.2.1<0))) (
 some (2:Int)) (
 tif ((decide (e.1<e.2.2.1))) (
 some (2:Int)) (
 tif (e.2.2.2) (
 tif ((!((decide (e.1=e.1))&&((decide (e.2.1=0))&&((decide (e.2.2.1=0))&&(e.2.2.2==true)))))) (
 some (2:Int)) (
 some (0:Int))) (
 some (0:Int)))))):=by kernel_rfl
theorem x0b (n:Nat) (v:a0z) (i:Int):e0v (n+1) v i =
 a0a (at? v.2.2.2 i) fun r0 =>
 a0a (v0b n r0) fun r1 =>
 tif ((!r1)) (
 tif ((decide (v.2.2.1=((-1):Int)))) (
 some true) (
 a0a (t0v n v.1 r0.2.1 v.2.2.1) fun r2 =>
 some (!r2))) (
 some false):=by kernel_rfl
theorem d1r (n:Nat) (a:b0x) (b:b0x):f0i (n+1) a b =
 a0a (n0u n a.1 b.1) fun r0 =>
 tif (r0) (
 tif ((decide (a.2.1=b.2.1))) (
 a0a (v1g n a.2.2.1 b.2.2.1) fun r1 =>
 tif (r1) (
 tif (((decide (a.2.2.2.2.1=b.2.2.2.2.1))&&((decide (a.2.2.2.2.2.1=b.2.2.2.2.2.1))&&((decide (a.2.2.2.2.2.2.1.1=b.2.2.2.2.2.2.1.1))&&((decide (a.2.2.2.2.2.2.1.2.1=b.2.2.2.2.2.2.1.2.1))&&((decide (a.2.2.2.2.2.2.1.2.2.1=b.2.2.2.2.2.2.1.2.2.1))&&((a.2.2.2.2.2.2.1.2.2.2==b.2.2.2.2.2.2.1.2.2.2)&&((decide (a.2.2.2.2.2.2.2.1.1=b.2.2.2.2.2.2.2.1.1))&&((decide (a.2.2.2.2.2.2.2.1.2.1=b.2.2.2.2.2.2.2.1.2.1))&&((decide (a.2.2.2.2.2.2.2.1.2.2.1=b.2.2.2.2.2.2.2.1.2.2.1))&&((a.2.2.2.2.2.2.2.1.2.2.2==b.2.2.2.2.2.2.2.1.2.2.2)&&((decide (a.2.2.2.2.2.2.2.2.1.1=b.2.2.2.2.2.2.2.2.1.1))&&((decide (a.2.2.2.2.2.2.2.2.1.2=b.2.2.2.2.2.2.2.2.1.2))&&((decide (a.2.2.2.2.2.2.2.2.2.1=b.2.2.2.2.2.2.2.2.2.1))&&((decide (a.2.2.2.2.2.2.2.2.2.2.1=b.2.2.2.2.2.2.2.2.2.2.1))&&(decide (a.2.2.2.2.2.2.2.2.2.2.2=b.2.2.2.2.2.2.2.2.2.2.2))))))))))))))))) (
 a0a (h0g n a.2.2.2.1.1 b.2.2.2.1.1) fun r2 =>
 tif (r2) (
 a0a (h0g n a.2.2.2.1.2.1 b.2.2.2.1.2.1) fun r3 =>
 tif (r3) (
 a0a (h0g n a.2.2.2.1.2.2 b.2.2.2.1.2.2) fun r4 =>
 some r4) (
 some false)) (
 some false)) (
 some false)) (
 some false)) (
 some false)) (
 some false):=by kernel_rfl
theorem d1q (n:Nat) (c:b0t) (s:b0x):o0z (n+1) c s =
 a0a (y0c n c s.2.2.2.1) fun r0 =>
 tif ((!(decide (r0=0)))) (
 some (none,2)) (
 a0a (i0g n s.1) fun r1 =>
 tif ((!(decide (r1=0)))) (
 some (none,2)) (
 a0a (v0u n s.2.2.1 c.1) fun r2 =>
 tif ((!(decide (r2=0)))) (
 some (none,2)) (
 tif ((decide (s.2.1=((-1):Int)))) (
 a0a (b1d n (c,s)) fun r3 =>
 tif (r3) (
 some ((some (c,s)),0)) (
 tif ((!(decide (s.2.1=((-1):Int))))) (
 a0a (a1a n (c,s)) fun r4 =>
 tif (r4) (
 some ((some (c,s)),0)) (
 some (none,2))) (
 some (none,2)))) (
 tif ((!(decide (s.2.1=((-1):Int))))) (
 a0a (a1a n (c,s)) fun r5 =>
 tif (r5) (
 some ((some (c,s)),0)) (
 some (none,2))) (
 some (none,2)))))):=by kernel_rfl
theorem u0z (n:Nat) (k:Int) (p1:Int) (p2:a0z):f0h (n+1) k p1 p2 =
 tif ((decide (k=p1))) (
 some true) (
 a0a (e0v n p2 k) fun r0 =>
 tif (r0) (
 a0a (at? p2.2.2.2 k) fun r1 =>
 a0a (at? p2.2.2.2 p1) fun r2 =>
 a0a (n0u n r1.1 r2.1) fun r3 =>
 some r3) (
 some false)):=by kernel_rfl
theorem w0d (n:Nat) (a:(List (List UInt8×List UInt8))) (b:(List (List UInt8×List UInt8))):n0u (n+1) a b =
 a0a (m0r n a b) fun r0 =>
 some r0:=by kernel_rfl
theorem m1e (n:Nat) (n_:Int) (by_:Int):k0s (n+1) n_ by_ =
 tif ((decide (by_=0))) (
 none) (
 some (IntKind.wrap .i64 (Int.tdiv (IntKind.wrap .i64 ((IntKind.wrap .i64 (n_+by_))-1)) by_))):=by kernel_rfl
theorem z0n (n:Nat) (i:Int):v0d (n+1) i =
 a0a (n0h n i (10:Int)) fun r0 =>
 some r0:=by kernel_rfl
theorem r0m (n:Nat) (w:(List Int)) (width:Int) (n_:Int):a0o (n+1) w width n_ =
 tif ((decide (width<1))) (
 some w) (
 tif ((decide ((8:Int)<width))) (
 some w) (
 a0a (d0u n a0b (w,(n_,((IntKind.wrap .i64 ((8:Int)*(IntKind.wrap .i64 (width-1)))),())))) fun r0 =>
 b0z (fun y1 =>
 some y1.1) (fun z2 =>
 some z2) r0)):=by kernel_rfl
theorem h0b (n f:Nat) (w:(List Int)) (n_:Int) (up:Int):d0u n (f+1) (w,n_,up,()) =
 tif ((decide ((0:Int)≤up))) (
 tif ((decide (up<0))) (
 none) (
 tif ((decide ((((List.length w)+1)*1)≤140737488355328))) (
 d0u n f ((w++((IntKind.wrap .u8 (shrI .u64 n_ up))::[])),(n_,((IntKind.wrap .i64 (up-8)),())))) (
 none))) (
 some (.inl (w,()))):=by kernel_rfl
theorem q0c (n:Nat) (x:Int) (y:Int):p0i (n+1) x y =
 a0a (f0j n x y) fun r0 =>
 some r0:=by kernel_rfl
theorem e1r (n:Nat) (l:(List (List UInt8×List UInt8))):u0b (n+1) l =
 a0a (i0g n l) fun r0 =>
 tif ((!(decide (r0=0)))) (
 some ([],r0)) (
 a0a (g0c n [] (IntKind.wrap .u64 (((List.length l):Nat):Int))) fun r1 =>
 a0a (i0u n a0b (r1,(l,((((List.length l):Nat):Int),(0,()))))) fun r2 =>
 b0z (fun y3 =>
 a0a (c0f n y3.1) fun r4 =>
 some (r4.1,0)) (fun z5 =>
 some z5) r2):=by kernel_rfl
theorem n0w (n f:Nat) (w:(List Int)) (s17:(List (List UInt8×List UInt8))) (s18:Int) (s19:Int):i0u n (f+1) (w,s17,s18,s19,()) =
 tif ((decide (s19<s18))) (
 a0a (at? s17 s19) fun r0 =>
 a0a (g0d n w r0.1) fun r1 =>
 a0a (g0d n r1 r0.2) fun r2 =>
 i0u n f (r2,(s17,(s18,((IntKind.wrap .i64 (s19+1)),()))))) (
 some (.inl (w,()))):=by kernel_rfl
theorem e1t (n:Nat) (w:(List Int)) (e:a0m):l0k (n+1) w e =
 a0a (l0l n w (e.1::((IntKind.wrap .i64 e.2.1)::(e.2.2.1::[])))) fun r0 =>
 tif (e.2.2.2) (
 a0a (a0o n r0 (1:Int) (1:Int)) fun r1 =>
 some r1) (
 a0a (a0o n r0 (1:Int) (0:Int)) fun r2 =>
 some r2):=by kernel_rfl
theorem j1r (n:Nat) (s:a0z):x0k (n+1) s =
 a0a (n0g n s) fun r0 =>
 tif ((!(decide (r0=0)))) (
 some (0,0)) (
 a0a (j1f n s) fun r1 =>
 some (r1,(if (35184372088832:Int)<(IntKind.wrap .i64 (r1+s.1.2.1.1)) then (35184372088832:Int) else (IntKind.wrap .i64 (r1+s.1.2.1.1))))):=by kernel_rfl
theorem r1m (n:Nat) (s:a0z) (l:(List (List UInt8×List UInt8))):j1h (n+1) s l =
 a0a (r0v n s) fun r0 =>
 tif ((!(decide (r0.2=0)))) (
 some (0,r0.2)) (
 a0a (d0x n r0.1 (fun y1=>f0s n y1.1 s l r0.1)) fun r2 =>
 tif ((decide (r2<0))) (
 some (0,3)) (
 some (r2,0))):=by kernel_rfl
theorem r1k (n:Nat) (s:a0z):z0y (n+1) s =
 a0a (r0v n s) fun r0 =>
 tif ((!(decide (r0.2=0)))) (
 some (0,r0.2)) (
 a0a (d0x n r0.1 (fun y1=>f0r n y1.1 r0.1)) fun r2 =>
 tif ((decide (r2<0))) (
 some (0,7)) (
 some (r2,0))):=by kernel_rfl
theorem j1p (n:Nat) (c:b0t) (l:(List (List UInt8×List UInt8))):s0c (n+1) c l =
 a0a (d0e n c) fun r0 =>
 tif ((!(decide (r0=0)))) (
 some (([],(0,((0,(0,[])),(([],([],[])),(0,(0,((0,(0,(0,false))),((0,(0,(0,false))),((0,0),(0,(0,0))))))))))),r0)) (
 a0a (i0g n l) fun r1 =>
 tif ((!(decide (r1=0)))) (
 some (([],(0,((0,(0,[])),(([],([],[])),(0,(0,((0,(0,(0,false))),((0,(0,(0,false))),((0,0),(0,(0,0))))))))))),r1)) (
 a0a (m0t n l) fun r2 =>
 a0a (y0a n c) fun r3 =>
 some ((r2,(((-1):Int),((0,(0,[])),(r3,(0,(0,((0,(0,(0,false))),((0,(0,(0,false))),((0,0),(0,(0,0))))))))))),0))):=by kernel_rfl
theorem r1p (n:Nat) (s:c0p) (i:Int):j1j (n+1) s i =
 tif ((decide (s.2.2.2.2.2.1=i))) (
 some (0,s)) (
 tif ((decide (s.2.2.2.2.2.2.1=0))) (
 some (0,s)) (
 a0a (y0b n s.1 s.2.2.2.2.1 s.2.2.2.2.2 i) fun r0 =>
 tif ((decide (r0.2=0))) (
 some (r0.2,(s.1,(s.2.1,(s.2.2.1,(s.2.2.2.1,(r0.1,(0,(0,((0,(0,(0,false))),((0,(0,(0,false))),((0,0),(0,(0,0)))))))))))))) (
 some (r0.2,s)))):=by kernel_rfl
theorem x1s (n:Nat) (s:c0p) (i:Int) (e:a0m):c2u (n+1) s i e =
 a0a (s1h n s.2.2.2.1 s.1.1 e) fun r0 =>
 a0a (m1m n s.2.2.2.2.2.2 e) fun r1 =>
 tif ((!(decide (r0.2=0)))) (
 some (r0.2,s)) (
 some (r1.2,(s.1,(s.2.1,(e.1,(r0.1,(s.2.2.2.2.1,(i,r1.1)))))))):=by kernel_rfl
theorem k1x (n:Nat) (s:List UInt8):x0x (n+1) s =
 tif ((s==[])) (
 some false) (
 tif ((decide ((64:Int)<(((List.length s):Nat):Int)))) (
 some false) (
 a0a (at? s (0:Int)) fun r0 =>
 a0a (p0j n (((UInt8.toNat r0):Nat):Int)) fun r1 =>
 tif (r1) (
 some false) (
 a0a (g0g n (List.map (fun y2=>(((UInt8.toNat y2):Nat):Int)) s) (fun y3=>r0a n y3.1)) fun r4 =>
 some (!r4)))):=by kernel_rfl
theorem d1s (n:Nat) (c:b0t) (last:Int) (now:Int):t0v (n+1) c last now =
 a0a (d0e n c) fun r0 =>
 tif ((decide (r0=0))) (
 a0a (a1t n last now c.2.1.1 c.2.2.1.1) fun r1 =>
 tif (r1) (
 a0a (a1t n last now c.2.1.2.1 c.2.2.1.2.1) fun r2 =>
 tif (r2) (
 a0a (a1t n last now c.2.1.2.2 c.2.2.1.2.2) fun r3 =>
 tif (r3) (
 some r3) (
 some r3)) (
 some r2)) (
 some r1)) (
 some (decide (r0=0))):=by kernel_rfl
theorem s1g (n:Nat) (a:(Int×(Int×(List a0m)))) (b:(Int×(Int×(List a0m)))):v1g (n+1) a b =
 tif ((decide (a.1=b.1))) (
 tif ((decide (a.2.1=b.2.1))) (
 a0a (m0s n a.2.2 b.2.2) fun r0 =>
 some r0) (
 some false)) (
 some false):=by kernel_rfl
theorem z0o (n:Nat) (s1:(List a0c)) (s2:(List a0c)):h0g (n+1) s1 s2 =
 tif ((!(decide ((((List.length s1):Nat):Int)=(((List.length s2):Nat):Int))))) (
 some false) (
 a0a (g0q n a0b (s1,(s2,((((List.length s1):Nat):Int),(0,()))))) fun r0 =>
 b0z (fun y1 =>
 some true) (fun z2 =>
 some z2) r0):=by kernel_rfl
theorem l0a (n f:Nat) (s1:(List a0c)) (s2:(List a0c)) (s12:Int) (s13:Int):g0q n (f+1) (s1,s2,s12,s13,()) =
 tif ((decide (s13<s12))) (
 a0a (at? s1 s13) fun r0 =>
 a0a (at? s2 s13) fun r1 =>
 tif ((!((decide (r0.1=r1.1))&&((decide (r0.2.1=r1.2.1))&&((decide (r0.2.2.1.1=r1.2.2.1.1))&&((decide (r0.2.2.1.2.1=r1.2.2.1.2.1))&&((decide (r0.2.2.1.2.2.1=r1.2.2.1.2.2.1))&&((r0.2.2.1.2.2.2==r1.2.2.1.2.2.2)&&((decide (r0.2.2.2.1.1=r1.2.2.2.1.1))&&((decide (r0.2.2.2.1.2.1=r1.2.2.2.1.2.1))&&((decide (r0.2.2.2.1.2.2.1=r1.2.2.2.1.2.2.1))&&((r0.2.2.2.1.2.2.2==r1.2.2.2.1.2.2.2)&&((decide (r0.2.2.2.2.1.1=r1.2.2.2.2.1.1))&&((decide (r0.2.2.2.2.1.2=r1.2.2.2.2.1.2))&&((decide (r0.2.2.2.2.2.1=r1.2.2.2.2.2.1))&&((decide (r0.2.2.2.2.2.2.1=r1.2.2.2.2.2.2.1))&&(decide (r0.2.2.2.2.2.2.2=r1.2.2.2.2.2.2.2)))))))))))))))))) (
 some (.inr false)) (
 g0q n f (s1,(s2,(s12,((IntKind.wrap .i64 (s13+1)),())))))) (
 some (.inl ())):=by kernel_rfl
theorem l1g (n:Nat) (c:b0t) (s:((List a0c)×((List a0c)×(List a0c)))):y0c (n+1) c s =
 a0a (w0l n c s) fun r0 =>
 b1z (r0.1) (
 some r0.2) fun r1 =>
 some r0.2:=by kernel_rfl
theorem o1b (n:Nat) (r:(Int×(Int×(List a0m)))) (room:Int):v0u (n+1) r room =
 tif ((decide (room<1))) (
 some (2:Int)) (
 tif ((decide ((4096:Int)<room))) (
 some (2:Int)) (
 tif ((decide (room<(((List.length r.2.2):Nat):Int)))) (
 some (2:Int)) (
 tif ((decide (r.1<0))) (
 some (2:Int)) (
 tif ((decide ((70368744177664:Int)<r.1))) (
 some (2:Int)) (
 a0a (x0n n r.2.2) fun r0 =>
 tif ((!r0)) (
 some (2:Int)) (
 a0a (g1m n r room) fun r1 =>
 tif ((!r1)) (
 some (2:Int)) (
 some (0:Int)))))))):=by kernel_rfl
theorem n1q (n:Nat) (s:c0p):b1d (n+1) s =
 tif ((decide ((((List.length s.2.2.2.1.2.2):Nat):Int)=0))) (
 tif (((decide (s.2.2.2.2.2.1=0))&&((decide (s.2.2.2.2.2.2.1=0))&&((decide (s.2.2.2.2.2.2.2.1.1=0))&&((decide (s.2.2.2.2.2.2.2.1.2.1=0))&&((decide (s.2.2.2.2.2.2.2.1.2.2.1=0))&&((s.2.2.2.2.2.2.2.1.2.2.2==false)&&((decide (s.2.2.2.2.2.2.2.2.1.1=0))&&((decide (s.2.2.2.2.2.2.2.2.1.2.1=0))&&((decide (s.2.2.2.2.2.2.2.2.1.2.2.1=0))&&((s.2.2.2.2.2.2.2.2.1.2.2.2==false)&&((decide (s.2.2.2.2.2.2.2.2.2.1.1=0))&&((decide (s.2.2.2.2.2.2.2.2.2.1.2=0))&&((decide (s.2.2.2.2.2.2.2.2.2.2.1=0))&&((decide (s.2.2.2.2.2.2.2.2.2.2.2.1=0))&&(decide (s.2.2.2.2.2.2.2.2.2.2.2.2=0))))))))))))))))) (
 a0a (d0q n s.2.2.2.2.1.1 (0:Int)) fun r0 =>
 tif ((!r0)) (
 a0a (d0q n s.2.2.2.2.1.2.1 (0:Int)) fun r1 =>
 tif ((!r1)) (
 a0a (d0q n s.2.2.2.2.1.2.2 (0:Int)) fun r2 =>
 some (!r2)) (
 some false)) (
 some false)) (
 some false)) (
 some false):=by kernel_rfl
theorem r1q (n:Nat) (s:c0p):a1a (n+1) s =
 a0a (a1b n s.2.2.2.1) fun r0 =>
 tif ((decide (r0.2=0))) (
 tif ((decide (r0.1.1=s.2.2.1))) (
 tif ((decide (s.2.2.2.2.2.2.2.2.1.1=s.2.2.1))) (
 a0a (k0y n s.2.2.2.2.2.2 s.1.2.1.1 s.2.2.2.2.2.1) fun r1 =>
 tif (r1) (
 tif ((decide (s.1.2.1.1=0))) (
 none) (
 a0a (d0q n s.2.2.2.2.1.1 (IntKind.wrap .i64 (Int.tdiv s.2.2.1 s.1.2.1.1))) fun r2 =>
 tif ((!r2)) (
 tif ((decide (s.1.2.1.2.1=0))) (
 none) (
 a0a (d0q n s.2.2.2.2.1.2.1 (IntKind.wrap .i64 (Int.tdiv s.2.2.1 s.1.2.1.2.1))) fun r3 =>
 tif ((!r3)) (
 tif ((decide (s.1.2.1.2.2=0))) (
 none) (
 a0a (d0q n s.2.2.2.2.1.2.2 (IntKind.wrap .i64 (Int.tdiv s.2.2.1 s.1.2.1.2.2))) fun r4 =>
 some (!r4))) (
 some false))) (
 some false))) (
 some false)) (
 some false)) (
 some false)) (
 some false):=by kernel_rfl
theorem x0e (n:Nat) (s1:(List (List UInt8×List UInt8))) (s2:(List (List UInt8×List UInt8))):m0r (n+1) s1 s2 =
 tif ((!(decide ((((List.length s1):Nat):Int)=(((List.length s2):Nat):Int))))) (
 some false) (
 a0a (f0u n a0b (s1,(s2,((((List.length s1):Nat):Int),(0,()))))) fun r0 =>
 b0z (fun y1 =>
 some true) (fun z2 =>
 some z2) r0):=by kernel_rfl
theorem j0w (n f:Nat) (s1:(List (List UInt8×List UInt8))) (s2:(List (List UInt8×List UInt8))) (s12:Int) (s13:Int):f0u n (f+1) (s1,s2,s12,s13,()) =
 tif ((decide (s13<s12))) (
 a0a (at? s1 s13) fun r0 =>
 a0a (at? s2 s13) fun r1 =>
 tif ((!((r0.1==r1.1)&&(r0.2==r1.2)))) (
 some (.inr false)) (
 f0u n f (s1,(s2,(s12,((IntKind.wrap .i64 (s13+1)),())))))) (
 some (.inl ())):=by kernel_rfl
theorem s0s (n:Nat) (i:Int) (base:Int):n0h (n+1) i base =
 tif ((decide (base=10))) (
 tif ((decide ((0:Int)≤i))) (
 tif ((decide (i<100))) (
 a0a (k0d n i) fun r0 =>
 some r0) (
 tif ((decide (i<0))) (
 a0a (f0t n (IntKind.wrap .u64 ((0:Int)-(IntKind.wrap .u64 i)))) fun r1 =>
 tif (((decide ((1:Int)≤(IntKind.wrap .i64 ((1:Int)+r1))))&&(decide ((IntKind.wrap .i64 ((1:Int)+r1))≤24)))) (
 a0a (e0b n ((List.replicate 24 (0:Int)),(1,((Int.toNat (IntKind.wrap .i64 ((1:Int)+r1)))-1))) (IntKind.wrap .u64 ((0:Int)-(IntKind.wrap .u64 i)))) fun r2 =>
 tif (((decide ((List.length r2.1)=24))&&((decide (r2.2.1=1))&&true))) (
 tif ((decide (i<0))) (
 tif ((true&&(true&&(decide ((0:Int)<(((List.length r2.1):Nat):Int)))))) (
 a0a ((r2.1)[0]?) fun r3 =>
 tif ((decide ((List.length (List.set r2.1 0 (45:Int)))=24))) (
 tif (((decide ((0:Int)≤(IntKind.wrap .i64 ((1:Int)+r1))))&&(decide ((IntKind.wrap .i64 ((1:Int)+r1))≤24)))) (
 some (List.map (fun y4=>(UInt8.ofNat (Int.toNat y4))) (List.take ((Int.toNat (IntKind.wrap .i64 ((1:Int)+r1)))-0) (List.drop 0 (List.set r2.1 0 (45:Int)))))) (
 none)) (
 none)) (
 none)) (
 tif ((decide ((List.length r2.1)=24))) (
 tif (((decide ((1:Int)≤(IntKind.wrap .i64 ((1:Int)+r1))))&&(decide ((IntKind.wrap .i64 ((1:Int)+r1))≤24)))) (
 some (List.map (fun y5=>(UInt8.ofNat (Int.toNat y5))) (List.take ((Int.toNat (IntKind.wrap .i64 ((1:Int)+r1)))-1) (List.drop 1 r2.1)))) (
 none)) (
 none))) (
 none)) (
 none)) (
 a0a (f0t n (IntKind.wrap .u64 i)) fun r6 =>
 tif (((decide ((1:Int)≤(IntKind.wrap .i64 ((1:Int)+r6))))&&(decide ((IntKind.wrap .i64 ((1:Int)+r6))≤24)))) (
 a0a (e0b n ((List.replicate 24 (0:Int)),(1,((Int.toNat (IntKind.wrap .i64 ((1:Int)+r6)))-1))) (IntKind.wrap .u64 i)) fun r7 =>
 tif (((decide ((List.length r7.1)=24))&&((decide (r7.2.1=1))&&true))) (
 tif ((decide (i<0))) (
 tif ((true&&(true&&(decide ((0:Int)<(((List.length r7.1):Nat):Int)))))) (
 a0a ((r7.1)[0]?) fun r8 =>
 tif ((decide ((List.length (List.set r7.1 0 (45:Int)))=24))) (
 tif (((decide ((0:Int)≤(IntKind.wrap .i64 ((1:Int)+r6))))&&(decide ((IntKind.wrap .i64 ((1:Int)+r6))≤24)))) (
 some (List.map (fun y9=>(UInt8.ofNat (Int.toNat y9))) (List.take ((Int.toNat (IntKind.wrap .i64 ((1:Int)+r6)))-0) (List.drop 0 (List.set r7.1 0 (45:Int)))))) (
 none)) (
 none)) (
 none)) (
 tif ((decide ((List.length r7.1)=24))) (
 tif (((decide ((1:Int)≤(IntKind.wrap .i64 ((1:Int)+r6))))&&(decide ((IntKind.wrap .i64 ((1:Int)+r6))≤24)))) (
 some (List.map (fun y10=>(UInt8.ofNat (Int.toNat y10))) (List.take ((Int.toNat (IntKind.wrap .i64 ((1:Int)+r6)))-1) (List.drop 1 r7.1)))) (
 none)) (
 none))) (
 none)) (
 none)))) (
 tif ((decide (i<0))) (
 a0a (f0t n (IntKind.wrap .u64 ((0:Int)-(IntKind.wrap .u64 i)))) fun r11 =>
 tif (((decide ((1:Int)≤(IntKind.wrap .i64 ((1:Int)+r11))))&&(decide ((IntKind.wrap .i64 ((1:Int)+r11))≤24)))) (
 a0a (e0b n ((List.replicate 24 (0:Int)),(1,((Int.toNat (IntKind.wrap .i64 ((1:Int)+r11)))-1))) (IntKind.wrap .u64 ((0:Int)-(IntKind.wrap .u64 i)))) fun r12 =>
 tif (((decide ((List.length r12.1)=24))&&((decide (r12.2.1=1))&&true))) (
 tif ((decide (i<0))) (
 tif ((true&&(true&&(decide ((0:Int)<(((List.length r12.1):Nat):Int)))))) (
 a0a ((r12.1)[0]?) fun r13 =>
 tif ((decide ((List.length (List.set r12.1 0 (45:Int)))=24))) (
 tif (((decide ((0:Int)≤(IntKind.wrap .i64 ((1:Int)+r11))))&&(decide ((IntKind.wrap .i64 ((1:Int)+r11))≤24)))) (
 some (List.map (fun y14=>(UInt8.ofNat (Int.toNat y14))) (List.take ((Int.toNat (IntKind.wrap .i64 ((1:Int)+r11)))-0) (List.drop 0 (List.set r12.1 0 (45:Int)))))) (
 none)) (
 none)) (
 none)) (
 tif ((decide ((List.length r12.1)=24))) (
 tif (((decide ((1:Int)≤(IntKind.wrap .i64 ((1:Int)+r11))))&&(decide ((IntKind.wrap .i64 ((1:Int)+r11))≤24)))) (
 some (List.map (fun y15=>(UInt8.ofNat (Int.toNat y15))) (List.take ((Int.toNat (IntKind.wrap .i64 ((1:Int)+r11)))-1) (List.drop 1 r12.1)))) (
 none)) (
 none))) (
 none)) (
 none)) (
 a0a (f0t n (IntKind.wrap .u64 i)) fun r16 =>
 tif (((decide ((1:Int)≤(IntKind.wrap .i64 ((1:Int)+r16))))&&(decide ((IntKind.wrap .i64 ((1:Int)+r16))≤24)))) (
 a0a (e0b n ((List.replicate 24 (0:Int)),(1,((Int.toNat (IntKind.wrap .i64 ((1:Int)+r16)))-1))) (IntKind.wrap .u64 i)) fun r17 =>
 tif (((decide ((List.length r17.1)=24))&&((decide (r17.2.1=1))&&true))) (
 tif ((decide (i<0))) (
 tif ((true&&(true&&(decide ((0:Int)<(((List.length r17.1):Nat):Int)))))) (
 a0a ((r17.1)[0]?) fun r18 =>
 tif ((decide ((List.length (List.set r17.1 0 (45:Int)))=24))) (
 tif (((decide ((0:Int)≤(IntKind.wrap .i64 ((1:Int)+r16))))&&(decide ((IntKind.wrap .i64 ((1:Int)+r16))≤24)))) (
 some (List.map (fun y19=>(UInt8.ofNat (Int.toNat y19))) (List.take ((Int.toNat (IntKind.wrap .i64 ((1:Int)+r16)))-0) (List.drop 0 (List.set r17.1 0 (45:Int)))))) (
 none)) (
 none)) (
 none)) (
 tif ((decide ((List.length r17.1)=24))) (
 tif (((decide ((1:Int)≤(IntKind.wrap .i64 ((1:Int)+r16))))&&(decide ((IntKind.wrap .i64 ((1:Int)+r16))≤24)))) (
 some (List.map (fun y20=>(UInt8.ofNat (Int.toNat y20))) (List.take ((Int.toNat (IntKind.wrap .i64 ((1:Int)+r16)))-1) (List.drop 1 r17.1)))) (
 none)) (
 none))) (
 none)) (
 none)))) (
 none):=by kernel_rfl
theorem w0b (n:Nat) (x:Int) (y:Int):f0j (n+1) x y =
 some ((IntKind.wrap .u64 ((IntKind.wrap .u64 ((IntKind.wrap .u64 ((shrI .u64 x (32:Int))*(shrI .u64 y (32:Int))))+(shrI .u64 (IntKind.wrap .u64 ((IntKind.wrap .u64 ((shrI .u64 x (32:Int))*(andI .u64 y (4294967295:Int))))+(shrI .u64 (IntKind.wrap .u64 ((andI .u64 x (4294967295:Int))*(andI .u64 y (4294967295:Int)))) (32:Int)))) (32:Int))))+(shrI .u64 (IntKind.wrap .u64 ((andI .u64 (IntKind.wrap .u64 ((IntKind.wrap .u64 ((shrI .u64 x (32:Int))*(andI .u64 y (4294967295:Int))))+(shrI .u64 (IntKind.wrap .u64 ((andI .u64 x (4294967295:Int))*(andI .u64 y (4294967295:Int)))) (32:Int)))) (4294967295:Int))+(IntKind.wrap .u64 ((andI .u64 x (4294967295:Int))*(shrI .u64 y (32:Int)))))) (32:Int)))),(IntKind.wrap .u64 (x*y))):=by kernel_rfl
theorem s0u (n:Nat) (w:(List Int)) (n_:Int):g0c (n+1) w n_ =
 a0a (e0c n a0b (w,(n_,()))) fun r0 =>
 b0z (fun y1 =>
 tif ((decide ((((List.length y1.1)+1)*1)≤140737488355328))) (
 some (y1.1++((IntKind.wrap .u8 y1.2.1)::[]))) (
 none)) (fun z2 =>
 some z2) r0:=by kernel_rfl
theorem p0s (n f:Nat) (w:(List Int)) (n_:Int):e0c n (f+1) (w,n_,()) =
 tif ((decide ((128:Int)≤n_))) (
 tif ((decide ((((List.length w)+1)*1)≤140737488355328))) (
 e0c n f ((w++((orI .u8 (IntKind.wrap .u8 n_) (128:Int))::[])),((shrI .u64 n_ (7:Int)),()))) (
 none)) (
 some (.inl (w,(n_,())))):=by kernel_rfl
theorem s0v (n:Nat) (w:(List Int)) (s:List UInt8):g0d (n+1) w s =
 a0a (g0c n w (IntKind.wrap .u64 (((List.length s):Nat):Int))) fun r0 =>
 a0a (d0o n r0 s) fun r1 =>
 some r1:=by kernel_rfl
theorem r1l (n:Nat) (s:a0z):j1f (n+1) s =
 a0a (r0v n s) fun r0 =>
 tif ((!(decide (r0.2=0)))) (
 some (0:Int)) (
 a0a (v0a n s.2.1) fun r1 =>
 tif ((!r1)) (
 some (0:Int)) (
 a0a (k0b n r0.1) fun r2 =>
 some r2)):=by kernel_rfl
theorem j1g (n:Nat) (i:Int) (p1:a0z) (p2:(List (List UInt8×List UInt8))) (p3:a0z):f0s (n+1) i p1 p2 p3 =
 a0a (at? p1.2.2.2 i) fun r0 =>
 a0a (n0u n r0.1 p2) fun r1 =>
 tif (r1) (
 a0a (e0v n p3 i) fun r2 =>
 some r2) (
 some false):=by kernel_rfl
theorem j1e (n:Nat) (i:Int) (p1:a0z):f0r (n+1) i p1 =
 a0a (e0v n p1 i) fun r0 =>
 some (!r0):=by kernel_rfl
theorem x0g (n:Nat) (s:(List (List UInt8×List UInt8))):m0t (n+1) s =
 tif ((decide ((List.length s)=0))) (
 both (
 some []) (
 tif ((decide (((0+(List.length s))*32)≤140737488355328))) (
 some ([]++s)) (
 none))) (
 tif ((decide (((0+(List.length s))*32)≤140737488355328))) (
 some ([]++s)) (
 none)):=by kernel_rfl
theorem l1e (n:Nat) (c:b0t):y0a (n+1) c =
 a0a (d0e n c) fun r0 =>
 tif ((!(decide (r0=0)))) (
 some ([],([],[]))) (
 a0a (u0w n c.2.2.1.1) fun r1 =>
 a0a (u0w n c.2.2.1.2.1) fun r2 =>
 a0a (u0w n c.2.2.1.2.2) fun r3 =>
 some (r1,(r2,r3))):=by kernel_rfl
theorem l1f (n:Nat) (c:b0t) (s:((List a0c)×((List a0c)×(List a0c)))) (was:a0c) (j:Int):y0b (n+1) c s was j =
 a0a (w0l n c s) fun r0 =>
 b1z (r0.1) (
 tif ((!(decide (r0.2=0)))) (
 some (([],([],[])),r0.2)) (
 tif ((!((decide (was.1=0))&&((decide (was.2.1=0))&&((decide (was.2.2.1.1=0))&&((decide (was.2.2.1.2.1=0))&&((decide (was.2.2.1.2.2.1=0))&&((was.2.2.1.2.2.2==false)&&((decide (was.2.2.2.1.1=0))&&((decide (was.2.2.2.1.2.1=0))&&((decide (was.2.2.2.1.2.2.1=0))&&((was.2.2.2.1.2.2.2==false)&&((decide (was.2.2.2.2.1.1=0))&&((decide (was.2.2.2.2.1.2=0))&&((decide (was.2.2.2.2.2.1=0))&&((decide (was.2.2.2.2.2.2.1=0))&&(decide (was.2.2.2.2.2.2.2=0)))))))))))))))))) (
 a0a (k0y n was.2 c.2.1.1 was.1) fun r1 =>
 tif ((!r1)) (
 some (([],([],[])),2)) (
 tif (((decide (was.1=0))&&((decide (was.2.1=0))&&((decide (was.2.2.1.1=0))&&((decide (was.2.2.1.2.1=0))&&((decide (was.2.2.1.2.2.1=0))&&((was.2.2.1.2.2.2==false)&&((decide (was.2.2.2.1.1=0))&&((decide (was.2.2.2.1.2.1=0))&&((decide (was.2.2.2.1.2.2.1=0))&&((was.2.2.2.1.2.2.2==false)&&((decide (was.2.2.2.2.1.1=0))&&((decide (was.2.2.2.2.1.2=0))&&((decide (was.2.2.2.2.2.1=0))&&((decide (was.2.2.2.2.2.2.1=0))&&(decide (was.2.2.2.2.2.2.2=0))))))))))))))))) (
 some (s,0)) (
 tif ((decide (was.1=j))) (
 some (s,0)) (
 tif ((decide (j<was.1))) (
 some (([],([],[])),1)) (
 none))))) (
 tif (((decide (was.1=0))&&((decide (was.2.1=0))&&((decide (was.2.2.1.1=0))&&((decide (was.2.2.1.2.1=0))&&((decide (was.2.2.1.2.2.1=0))&&((was.2.2.1.2.2.2==false)&&((decide (was.2.2.2.1.1=0))&&((decide (was.2.2.2.1.2.1=0))&&((decide (was.2.2.2.1.2.2.1=0))&&((was.2.2.2.1.2.2.2==false)&&((decide (was.2.2.2.2.1.1=0))&&((decide (was.2.2.2.2.1.2=0))&&((decide (was.2.2.2.2.2.1=0))&&((decide (was.2.2.2.2.2.2.1=0))&&(decide (was.2.2.2.2.2.2.2=0))))))))))))))))) (
 some (s,0)) (
 tif ((decide (was.1=j))) (
 some (s,0)) (
 tif ((decide (j<was.1))) (
 some (([],([],[])),1)) (
 none)))))) fun r2 =>
 tif ((!(decide (r0.2=0)))) (
 some (([],([],[])),r0.2)) (
 tif ((!((decide (was.1=0))&&((decide (was.2.1=0))&&((decide (was.2.2.1.1=0))&&((decide (was.2.2.1.2.1=0))&&((decide (was.2.2.1.2.2.1=0))&&((was.2.2.1.2.2.2==false)&&((decide (was.2.2.2.1.1=0))&&((decide (was.2.2.2.1.2.1=0))&&((decide (was.2.2.2.1.2.2.1=0))&&((was.2.2.2.1.2.2.2==false)&&((decide (was.2.2.2.2.1.1=0))&&((decide (was.2.2.2.2.1.2=0))&&((decide (was.2.2.2.2.2.1=0))&&((decide (was.2.2.2.2.2.2.1=0))&&(decide (was.2.2.2.2.2.2.2=0)))))))))))))))))) (
 a0a (k0y n was.2 c.2.1.1 was.1) fun r3 =>
 tif ((!r3)) (
 some (([],([],[])),2)) (
 tif (((decide (was.1=0))&&((decide (was.2.1=0))&&((decide (was.2.2.1.1=0))&&((decide (was.2.2.1.2.1=0))&&((decide (was.2.2.1.2.2.1=0))&&((was.2.2.1.2.2.2==false)&&((decide (was.2.2.2.1.1=0))&&((decide (was.2.2.2.1.2.1=0))&&((decide (was.2.2.2.1.2.2.1=0))&&((was.2.2.2.1.2.2.2==false)&&((decide (was.2.2.2.2.1.1=0))&&((decide (was.2.2.2.2.1.2=0))&&((decide (was.2.2.2.2.2.1=0))&&((decide (was.2.2.2.2.2.2.1=0))&&(decide (was.2.2.2.2.2.2.2=0))))))))))))))))) (
 some (s,0)) (
 tif ((decide (was.1=j))) (
 some (s,0)) (
 tif ((decide (j<was.1))) (
 some (([],([],[])),1)) (
 a0a (p0o n r2 (0:Int) j) fun r4 =>
 tif ((!r4.1)) (
 some (([],([],[])),1)) (
 a0a (f0d n r4.2 (0:Int) was.1 was.2) fun r5 =>
 tif ((!(decide (r5.1=0)))) (
 some (([],([],[])),r5.1)) (
 a0a (l1i n r5.2 was.1 j) fun r6 =>
 some (r6.2,0)))))))) (
 tif (((decide (was.1=0))&&((decide (was.2.1=0))&&((decide (was.2.2.1.1=0))&&((decide (was.2.2.1.2.1=0))&&((decide (was.2.2.1.2.2.1=0))&&((was.2.2.1.2.2.2==false)&&((decide (was.2.2.2.1.1=0))&&((decide (was.2.2.2.1.2.1=0))&&((decide (was.2.2.2.1.2.2.1=0))&&((was.2.2.2.1.2.2.2==false)&&((decide (was.2.2.2.2.1.1=0))&&((decide (was.2.2.2.2.1.2=0))&&((decide (was.2.2.2.2.2.1=0))&&((decide (was.2.2.2.2.2.2.1=0))&&(decide (was.2.2.2.2.2.2.2=0))))))))))))))))) (
 some (s,0)) (
 tif ((decide (was.1=j))) (
 some (s,0)) (
 tif ((decide (j<was.1))) (
 some (([],([],[])),1)) (
 a0a (p0o n r2 (0:Int) j) fun r7 =>
 tif ((!r7.1)) (
 some (([],([],[])),1)) (
 a0a (f0d n r7.2 (0:Int) was.1 was.2) fun r8 =>
 tif ((!(decide (r8.1=0)))) (
 some (([],([],[])),r8.1)) (
 a0a (l1i n r8.2 was.1 j) fun r9 =>
 some (r9.2,0)))))))):=by kernel_rfl
theorem y1t (n:Nat) (r:(Int×(Int×(List a0m)))) (room:Int) (e:a0m):s1h (n+1) r room e =
 a0a (v0u n r room) fun r0 =>
 tif ((!(decide (r0=0)))) (
 some ((0,(0,[])),2)) (
 a0a (e0a n e) fun r1 =>
 tif ((!(decide (r1=0)))) (
 some ((0,(0,[])),2)) (
 a0a (a1b n r) fun r2 =>
 tif ((decide (r2.2=0))) (
 a0a (j0k n r2.1 e) fun r3 =>
 tif ((!r3)) (
 some ((0,(0,[])),9)) (
 tif ((decide ((((List.length r.2.2):Nat):Int)=room))) (
 tif ((decide (r.1=70368744177664))) (
 some ((0,(0,[])),1)) (
 a0a (p0c n r.2.2 room) fun r4 =>
 b1z (r4.1) (
 tif ((!(decide (r4.2=0)))) (
 some ((0,(0,[])),r4.2)) (
 none)) fun r5 =>
 tif ((!(decide (r4.2=0)))) (
 some ((0,(0,[])),r4.2)) (
 a0a (y0v n r5 e) fun r6 =>
 tif (r6.2.1) (
 a0a (l0z n r6.2.2) fun r7 =>
 some (((IntKind.wrap .i64 (r.1+1)),(r6.1.1,r7.1)),0)) (
 a0a (l0z n r6.2.2) fun r8 =>
 some ((r.1,(r.2.1,r8.1)),0))))) (
 a0a (p0c n r.2.2 room) fun r9 =>
 b1z (r9.1) (
 tif ((!(decide (r9.2=0)))) (
 some ((0,(0,[])),r9.2)) (
 none)) fun r10 =>
 tif ((!(decide (r9.2=0)))) (
 some ((0,(0,[])),r9.2)) (
 a0a (y0v n r10 e) fun r11 =>
 tif (r11.2.1) (
 a0a (l0z n r11.2.2) fun r12 =>
 some (((IntKind.wrap .i64 (r.1+1)),(r11.1.1,r12.1)),0)) (
 a0a (l0z n r11.2.2) fun r13 =>
 some ((r.1,(r.2.1,r13.1)),0)))))) (
 tif ((decide ((((List.length r.2.2):Nat):Int)=room))) (
 tif ((decide (r.1=70368744177664))) (
 some ((0,(0,[])),1)) (
 a0a (p0c n r.2.2 room) fun r14 =>
 b1z (r14.1) (
 tif ((!(decide (r14.2=0)))) (
 some ((0,(0,[])),r14.2)) (
 none)) fun r15 =>
 tif ((!(decide (r14.2=0)))) (
 some ((0,(0,[])),r14.2)) (
 a0a (y0v n r15 e) fun r16 =>
 tif (r16.2.1) (
 a0a (l0z n r16.2.2) fun r17 =>
 some (((IntKind.wrap .i64 (r.1+1)),(r16.1.1,r17.1)),0)) (
 a0a (l0z n r16.2.2) fun r18 =>
 some ((r.1,(r.2.1,r18.1)),0))))) (
 a0a (p0c n r.2.2 room) fun r19 =>
 b1z (r19.1) (
 tif ((!(decide (r19.2=0)))) (
 some ((0,(0,[])),r19.2)) (
 none)) fun r20 =>
 tif ((!(decide (r19.2=0)))) (
 some ((0,(0,[])),r19.2)) (
 a0a (y0v n r20 e) fun r21 =>
 tif (r21.2.1) (
 a0a (l0z n r21.2.2) fun r22 =>
 some (((IntKind.wrap .i64 (r.1+1)),(r21.1.1,r22.1)),0)) (
 a0a (l0z n r21.2.2) fun r23 =>
 some ((r.1,(r.2.1,r23.1)),0))))))):=by kernel_rfl
theorem u1g (n:Nat) (c:c0q) (e:a0m):m1m (n+1) c e =
 a0a (e0a n e) fun r0 =>
 tif ((!(decide (r0=0)))) (
 some ((0,((0,(0,(0,false))),((0,(0,(0,false))),((0,0),(0,(0,0)))))),r0)) (
 a0a (m1i n e) fun r1 =>
 a0a (s0p n c r1) fun r2 =>
 some r2):=by kernel_rfl
theorem e1p (n:Nat) (c:Int):p0j (n+1) c =
 tif ((decide ((48:Int)≤c))) (
 some (decide (c≤57))) (
 some false):=by kernel_rfl
theorem o0v (n:Nat) (s:(List Int)) (f_:((Int×Unit)→Option Bool)):g0g (n+1) s f_ =
 a0a (n0m n s f_) fun r0 =>
 some (decide ((0:Int)≤r0)):=by kernel_rfl
theorem c1e (n:Nat) (c:Int):r0a (n+1) c =
 a0a (x0w n c) fun r0 =>
 some (!r0):=by kernel_rfl
theorem k1w (n:Nat) (c:Int):x0w (n+1) c =
 a0a (p0j n c) fun r0 =>
 tif (r0) (
 some true) (
 tif ((decide (c=95))) (
 some true) (
 tif ((decide ((97:Int)≤(orI .u8 c (32:Int))))) (
 some (decide ((orI .u8 c (32:Int))≤122))) (
 some false))):=by kernel_rfl
theorem x1j (n:Nat) (t:Int) (now:Int) (w:Int) (n_:Int):a1t (n+1) t now w n_ =
 a0a (x1i n t w) fun r0 =>
 a0a (a1s n now w n_) fun r1 =>
 tif ((decide (r0.2=0))) (
 tif ((decide (r1.2=0))) (
 some (decide (r0.1<r1.1))) (
 some false)) (
 some false):=by kernel_rfl
theorem x0f (n:Nat) (s1:(List a0m)) (s2:(List a0m)):m0s (n+1) s1 s2 =
 tif ((!(decide ((((List.length s1):Nat):Int)=(((List.length s2):Nat):Int))))) (
 some false) (
 a0a (f0v n a0b (s1,(s2,((((List.length s1):Nat):Int),(0,()))))) fun r0 =>
 b0z (fun y1 =>
 some true) (fun z2 =>
 some z2) r0):=by kernel_rfl
theorem j0x (n f:Nat) (s1:(List a0m)) (s2:(List a0m)) (s12:Int) (s13:Int):f0v n (f+1) (s1,s2,s12,s13,()) =
 tif ((decide (s13<s12))) (
 a0a (at? s1 s13) fun r0 =>
 a0a (at? s2 s13) fun r1 =>
 tif ((!((decide (r0.1=r1.1))&&((decide (r0.2.1=r1.2.1))&&((decide (r0.2.2.1=r1.2.2.1))&&(r0.2.2.2==r1.2.2.2)))))) (
 some (.inr false)) (
 f0v n f (s1,(s2,(s12,((IntKind.wrap .i64 (s13+1)),())))))) (
 some (.inl ())):=by kernel_rfl
theorem p1m (n:Nat) (c:b0t) (s:((List a0c)×((List a0c)×(List a0c)))):w0l (n+1) c s =
 a0a (d0e n c) fun r0 =>
 tif ((!(decide (r0=0)))) (
 some (none,r0)) (
 tif ((!(decide ((((List.length s.1):Nat):Int)=c.2.2.1.1)))) (
 some (none,2)) (
 a0a (k0p n s.1 c.2.1.1) fun r1 =>
 tif ((!(decide (r1=0)))) (
 some (none,2)) (
 tif ((!(decide ((((List.length s.2.1):Nat):Int)=c.2.2.1.2.1)))) (
 some (none,2)) (
 a0a (k0p n s.2.1 c.2.1.2.1) fun r2 =>
 tif ((!(decide (r2=0)))) (
 some (none,2)) (
 tif ((!(decide ((((List.length s.2.2):Nat):Int)=c.2.2.1.2.2)))) (
 some (none,2)) (
 a0a (k0p n s.2.2 c.2.1.2.2) fun r3 =>
 tif ((!(decide (r3=0)))) (
 some (none,2)) (
 some ((some (c,s)),0)))))))):=by kernel_rfl
theorem j1x (n:Nat) (l:(List a0m)):x0n (n+1) l =
 a0a (f0z n a0b (l,(l,((((List.length l):Nat):Int),(0,()))))) fun r0 =>
 b0z (fun y1 =>
 some true) (fun z2 =>
 some z2) r0:=by kernel_rfl
theorem q0b (n f:Nat) (l:(List a0m)) (s5:(List a0m)) (s6:Int) (s7:Int):f0z n (f+1) (l,s5,s6,s7,()) =
 tif ((decide (s7<s6))) (
 a0a (at? s5 s7) fun r0 =>
 a0a (e0a n r0) fun r1 =>
 tif ((!(decide (r1=0)))) (
 some (.inr false)) (
 tif ((decide ((0:Int)<s7))) (
 a0a (at? l (IntKind.wrap .i64 (s7-1))) fun r2 =>
 a0a (j0k n r2 r0) fun r3 =>
 tif ((!r3)) (
 some (.inr false)) (
 f0z n f (l,(s5,(s6,((IntKind.wrap .i64 (s7+1)),())))))) (
 f0z n f (l,(s5,(s6,((IntKind.wrap .i64 (s7+1)),()))))))) (
 some (.inl ())):=by kernel_rfl
theorem j1y (n:Nat) (r:(Int×(Int×(List a0m)))) (room:Int):g1m (n+1) r room =
 tif ((decide (r.1=0))) (
 some (decide (r.2.1=0))) (
 tif ((decide ((((List.length r.2.2):Nat):Int)=room))) (
 tif ((decide ((0:Int)≤r.2.1))) (
 a0a (at? r.2.2 (0:Int)) fun r0 =>
 some (decide (r.2.1<r0.1))) (
 some false)) (
 some false)):=by kernel_rfl
theorem z0r (n:Nat) (l:(List a0c)) (i:Int):d0q (n+1) l i =
 a0a (g0h n l (fun y0=>l0c n y0.1 i)) fun r1 =>
 some r1:=by kernel_rfl
theorem s1i (n:Nat) (r:(Int×(Int×(List a0m)))):a1b (n+1) r =
 tif ((decide ((((List.length r.2.2):Nat):Int)=0))) (
 some ((0,(0,(0,false))),3)) (
 a0a (at? r.2.2 (IntKind.wrap .i64 ((((List.length r.2.2):Nat):Int)-1))) fun r0 =>
 some (r0,0)):=by kernel_rfl
theorem n1j (n:Nat) (c:c0q) (w:Int) (i:Int):k0y (n+1) c w i =
 tif ((decide (c.1=0))) (
 some false) (
 a0a (o0e n c) fun r0 =>
 tif ((!(decide (r0=0)))) (
 some false) (
 a0a (f0g n a0b (w,(i,((c.2.1.1,c.2.2.1.1),(0,()))))) fun r1 =>
 b0z (fun y2 =>
 some true) (fun z3 =>
 some z3) r1)):=by kernel_rfl
theorem k0x (n f:Nat) (w:Int) (i:Int) (s25:(Int×Int)) (s26:Int):f0g n (f+1) (w,i,s25,s26,()) =
 tif ((decide (s26<2))) (
 tif ((decide (s26=0))) (
 a0a (x1i n s25.1 w) fun r0 =>
 tif ((!(decide (r0.2=0)))) (
 some (.inr false)) (
 tif ((!(decide (r0.1=i)))) (
 some (.inr false)) (
 f0g n f (w,(i,(s25,((IntKind.wrap .i64 (s26+1)),()))))))) (
 tif ((decide (s26=1))) (
 a0a (x1i n s25.2 w) fun r1 =>
 tif ((!(decide (r1.2=0)))) (
 some (.inr false)) (
 tif ((!(decide (r1.1=i)))) (
 some (.inr false)) (
 f0g n f (w,(i,(s25,((IntKind.wrap .i64 (s26+1)),()))))))) (
 none))) (
 some (.inl ())):=by kernel_rfl
theorem r1d (n:Nat) (n_:Int):u0w (n+1) n_ =
 tif ((decide (n_<1))) (
 some []) (
 tif ((decide ((4096:Int)<n_))) (
 some []) (
 tif (((decide ((0:Int)≤n_))&&((decide (n_≤n_))&&(decide ((n_*120)≤140737488355328))))) (
 some (List.replicate (Int.toNat n_) (0,(0,((0,(0,(0,false))),((0,(0,(0,false))),((0,0),(0,(0,0))))))))) (
 none))):=by kernel_rfl
theorem z0t (n:Nat) (s:s0x) (i:Int):p0o (n+1) s (0:Int) i =
 tif ((decide ((0:Int)≤i))) (
 tif ((decide (s.1.2.1.1=0))) (
 none) (
 some ((decide (i≤(IntKind.wrap .i64 (Int.tdiv (35184372088831:Int) s.1.2.1.1)))),s))) (
 some (false,s)):=by kernel_rfl
theorem l1l (n:Nat) (s:s0x) (i:Int) (c:c0q):f0d (n+1) s (0:Int) i c =
 a0a (u0v n s.2.1 s.1.2.1.1 i c) fun r0 =>
 tif ((decide (r0.2=0))) (
 some (r0.2,(s.1,(r0.1,s.2.2)))) (
 some (r0.2,s)):=by kernel_rfl
theorem l1k (n:Nat) (s:s0x) (i:Int) (c:c0q):f0d (n+1) s (1:Int) i c =
 a0a (u0v n s.2.2.1 s.1.2.1.2.1 i c) fun r0 =>
 tif ((decide (r0.2=0))) (
 some (r0.2,(s.1,(s.2.1,(r0.1,s.2.2.2))))) (
 some (r0.2,s)):=by kernel_rfl
theorem l1j (n:Nat) (s:s0x) (i:Int) (c:c0q):f0d (n+1) s (2:Int) i c =
 a0a (u0v n s.2.2.2 s.1.2.1.2.2 i c) fun r0 =>
 tif ((decide (r0.2=0))) (
 some (r0.2,(s.1,(s.2.1,(s.2.2.1,r0.1))))) (
 some (r0.2,s)):=by kernel_rfl
theorem a2p (n:Nat) (s:s0x) (i:Int) (j:Int):l1i (n+1) s i j =
 tif ((decide (s.1.2.1.2.1=0))) (
 none) (
 tif ((decide (s.1.2.1.2.1=0))) (
 none) (
 tif ((decide ((IntKind.wrap .i64 (Int.tdiv (IntKind.wrap .i64 (i*s.1.2.1.1)) s.1.2.1.2.1))=(IntKind.wrap .i64 (Int.tdiv (IntKind.wrap .i64 (j*s.1.2.1.1)) s.1.2.1.2.1))))) (
 tif ((decide (s.1.2.1.2.2=0))) (
 none) (
 tif ((decide (s.1.2.1.2.2=0))) (
 none) (
 tif ((decide ((IntKind.wrap .i64 (Int.tdiv (IntKind.wrap .i64 (i*s.1.2.1.1)) s.1.2.1.2.2))=(IntKind.wrap .i64 (Int.tdiv (IntKind.wrap .i64 (j*s.1.2.1.1)) s.1.2.1.2.2))))) (
 some s) (
 a0a (g0n n s (2:Int) (IntKind.wrap .i64 (Int.tdiv (IntKind.wrap .i64 (i*s.1.2.1.1)) s.1.2.1.2.2))) fun r0 =>
 tif ((decide (r0.2.1=0))) (
 tif ((decide ((0:Int)<r0.1.1))) (
 a0a (f0d n r0.2.2 (2:Int) (IntKind.wrap .i64 (Int.tdiv (IntKind.wrap .i64 (i*s.1.2.1.1)) s.1.2.1.2.2)) r0.1) fun r1 =>
 some r1.2) (
 some r0.2.2)) (
 some r0.2.2))))) (
 a0a (g0n n s (1:Int) (IntKind.wrap .i64 (Int.tdiv (IntKind.wrap .i64 (i*s.1.2.1.1)) s.1.2.1.2.1))) fun r2 =>
 tif ((decide (r2.2.1=0))) (
 tif ((decide ((0:Int)<r2.1.1))) (
 a0a (f0d n r2.2.2 (1:Int) (IntKind.wrap .i64 (Int.tdiv (IntKind.wrap .i64 (i*s.1.2.1.1)) s.1.2.1.2.1)) r2.1) fun r3 =>
 tif ((decide (r3.2.1.2.1.2.2=0))) (
 none) (
 tif ((decide (r3.2.1.2.1.2.2=0))) (
 none) (
 tif ((decide ((IntKind.wrap .i64 (Int.tdiv (IntKind.wrap .i64 (i*r3.2.1.2.1.1)) r3.2.1.2.1.2.2))=(IntKind.wrap .i64 (Int.tdiv (IntKind.wrap .i64 (j*r3.2.1.2.1.1)) r3.2.1.2.1.2.2))))) (
 some r3.2) (
 a0a (g0n n r3.2 (2:Int) (IntKind.wrap .i64 (Int.tdiv (IntKind.wrap .i64 (i*r3.2.1.2.1.1)) r3.2.1.2.1.2.2))) fun r4 =>
 tif ((decide (r4.2.1=0))) (
 tif ((decide ((0:Int)<r4.1.1))) (
 a0a (f0d n r4.2.2 (2:Int) (IntKind.wrap .i64 (Int.tdiv (IntKind.wrap .i64 (i*r3.2.1.2.1.1)) r3.2.1.2.1.2.2)) r4.1) fun r5 =>
 some r5.2) (
 some r4.2.2)) (
 some r4.2.2))))) (
 tif ((decide (r2.2.2.1.2.1.2.2=0))) (
 none) (
 tif ((decide (r2.2.2.1.2.1.2.2=0))) (
 none) (
 tif ((decide ((IntKind.wrap .i64 (Int.tdiv (IntKind.wrap .i64 (i*r2.2.2.1.2.1.1)) r2.2.2.1.2.1.2.2))=(IntKind.wrap .i64 (Int.tdiv (IntKind.wrap .i64 (j*r2.2.2.1.2.1.1)) r2.2.2.1.2.1.2.2))))) (
 some r2.2.2) (
 a0a (g0n n r2.2.2 (2:Int) (IntKind.wrap .i64 (Int.tdiv (IntKind.wrap .i64 (i*r2.2.2.1.2.1.1)) r2.2.2.1.2.1.2.2))) fun r6 =>
 tif ((decide (r6.2.1=0))) (
 tif ((decide ((0:Int)<r6.1.1))) (
 a0a (f0d n r6.2.2 (2:Int) (IntKind.wrap .i64 (Int.tdiv (IntKind.wrap .i64 (i*r2.2.2.1.2.1.1)) r2.2.2.1.2.1.2.2)) r6.1) fun r7 =>
 some r7.2) (
 some r6.2.2)) (
 some r6.2.2)))))) (
 tif ((decide (r2.2.2.1.2.1.2.2=0))) (
 none) (
 tif ((decide (r2.2.2.1.2.1.2.2=0))) (
 none) (
 tif ((decide ((IntKind.wrap .i64 (Int.tdiv (IntKind.wrap .i64 (i*r2.2.2.1.2.1.1)) r2.2.2.1.2.1.2.2))=(IntKind.wrap .i64 (Int.tdiv (IntKind.wrap .i64 (j*r2.2.2.1.2.1.1)) r2.2.2.1.2.1.2.2))))) (
 some r2.2.2) (
 a0a (g0n n r2.2.2 (2:Int) (IntKind.wrap .i64 (Int.tdiv (IntKind.wrap .i64 (i*r2.2.2.1.2.1.1)) r2.2.2.1.2.1.2.2))) fun r8 =>
 tif ((decide (r8.2.1=0))) (
 tif ((decide ((0:Int)<r8.1.1))) (
 a0a (f0d n r8.2.2 (2:Int) (IntKind.wrap .i64 (Int.tdiv (IntKind.wrap .i64 (i*r2.2.2.1.2.1.1)) r2.2.2.1.2.1.2.2)) r8.1) fun r9 =>
 some r9.2) (
 some r8.2.2)) (
 some r8.2.2)))))))):=by kernel_rfl
theorem c1m (n:Nat) (p:a0m) (c:a0m):j0k (n+1) p c =
 a0a (l0o n (p::(c::[]))) fun r0 =>
 tif (r0) (
 some (decide (p.1<c.1))) (
 some false):=by kernel_rfl
theorem s1f (n:Nat) (l:(List a0m)) (room:Int):p0c (n+1) l room =
 a0a (t0e n room) fun r0 =>
 b1z (r0.1) (
 tif ((!(decide (r0.2=0)))) (
 some (none,r0.2)) (
 none)) fun r1 =>
 tif ((!(decide (r0.2=0)))) (
 some (none,r0.2)) (
 a0a (p0b n a0b (r1,(l,((((List.length l):Nat):Int),(0,()))))) fun r2 =>
 b0z (fun y3 =>
 some ((some y3.1),0)) (fun z4 =>
 some z4) r2):=by kernel_rfl
theorem t0g (n f:Nat) (q:g0u) (s18:(List a0m)) (s19:Int) (s20:Int):p0b n (f+1) (q,s18,s19,s20,()) =
 tif ((decide (s20<s19))) (
 a0a (at? s18 s20) fun r0 =>
 a0a (y0v n q r0) fun r1 =>
 p0b n f (r1.2.2,(s18,(s19,((IntKind.wrap .i64 (s20+1)),()))))) (
 some (.inl (q,()))):=by kernel_rfl
theorem n1x (n:Nat) (r:g0u) (x:a0m):y0v (n+1) r x =
 tif ((decide ((((List.length r.2.1):Nat):Int)<r.1))) (
 tif ((decide ((((List.length r.2.1)+1)*32)≤140737488355328))) (
 some ((0,(0,(0,false))),(false,(r.1,((r.2.1++(x::[])),r.2.2))))) (
 none)) (
 a0a (at? r.2.1 r.2.2.1) fun r0 =>
 a0a ((r.2.1)[(Int.toNat r.2.2.1)]?) fun r1 =>
 a0a (at? r.2.1 r.2.2.1) fun r2 =>
 a0a ((r.2.1)[(Int.toNat r.2.2.1)]?) fun r3 =>
 a0a (v1e n (r.1,((List.set r.2.1 (Int.toNat r.2.2.1) x),r.2.2)) (1:Int)) fun r4 =>
 some (r1,(true,(r4.2.1,(r4.2.2.1,(r4.1,(IntKind.wrap .u64 (r4.2.2.2.2+1)))))))):=by kernel_rfl
theorem d2o (n:Nat) (r:g0u):l0z (n+1) r =
 tif ((true&&((decide ((0:Int)≤(((List.length r.2.1):Nat):Int)))&&(decide (((((List.length r.2.1):Nat):Int)*32)≤140737488355328))))) (
 tif ((decide ((0:Int)≤r.2.2.1))) (
 tif ((decide ((Int.toNat r.2.2.1)≤(List.length r.2.1)))) (
 tif ((decide (((0+(List.length (List.take ((List.length r.2.1)-(Int.toNat r.2.2.1)) (List.drop (Int.toNat r.2.2.1) r.2.1))))*32)≤140737488355328))) (
 tif (((decide ((0:Int)≤r.2.2.1))&&(decide (r.2.2.1≤(((List.length r.2.1):Nat):Int))))) (
 tif ((decide ((((List.length ((List.replicate 0 ((0:Int),((0:Int),((0:Int),false))))++(List.take ((List.length r.2.1)-(Int.toNat r.2.2.1)) (List.drop (Int.toNat r.2.2.1) r.2.1))))+(List.length (List.take ((Int.toNat r.2.2.1)-0) (List.drop 0 r.2.1))))*32)≤140737488355328))) (
 some ((((List.replicate 0 ((0:Int),((0:Int),((0:Int),false))))++(List.take ((List.length r.2.1)-(Int.toNat r.2.2.1)) (List.drop (Int.toNat r.2.2.1) r.2.1)))++(List.take ((Int.toNat r.2.2.1)-0) (List.drop 0 r.2.1))),r)) (
 none)) (
 none)) (
 none)) (
 none)) (
 none)) (
 none):=by kernel_rfl
theorem m1j (n:Nat) (a:c0q) (b:c0q):s0p (n+1) a b =
 a0a (o0e n a) fun r0 =>
 tif ((!(decide (r0=0)))) (
 some ((0,((0,(0,(0,false))),((0,(0,(0,false))),((0,0),(0,(0,0)))))),2)) (
 a0a (o0e n b) fun r1 =>
 tif ((!(decide (r1=0)))) (
 some ((0,((0,(0,(0,false))),((0,(0,(0,false))),((0,0),(0,(0,0)))))),2)) (
 a0a (r0n n a) fun r2 =>
 tif (r2) (
 some (b,0)) (
 a0a (r0n n b) fun r3 =>
 tif (r3) (
 some (a,0)) (
 a0a (q1g n a b) fun r4 =>
 some r4)))):=by kernel_rfl
theorem u1d (n:Nat) (e:a0m):m1i (n+1) e =
 some (1,(e,(e,((0,0),(0,(0,0)))))):=by kernel_rfl
theorem s0t (n:Nat) (s:(List Int)) (f_:((Int×Unit)→Option Bool)):n0m (n+1) s f_ =
 a0a (c0x n a0b (s,(f_,((((List.length s):Nat):Int),(0,()))))) fun r0 =>
 b0z (fun y1 =>
 some ((-1):Int)) (fun z2 =>
 some z2) r0:=by kernel_rfl
theorem h0e (n f:Nat) (s:(List Int)) (f_:((Int×Unit)→Option Bool)) (s7:Int) (s8:Int):c0x n (f+1) (s,f_,s7,s8,()) =
 tif ((decide (s8<s7))) (
 a0a (at? s s8) fun r0 =>
 a0a (f_ (r0,())) fun r1 =>
 tif (r1) (
 some (.inr s8)) (
 c0x n f (s,(f_,(s7,((IntKind.wrap .i64 (s8+1)),())))))) (
 some (.inl ())):=by kernel_rfl
theorem wi_Of_eq (n:Nat) (t:Int) (w:Int):x1i (n+1) t w =
 a0a (o0m n t (0:Int) (35184372088831:Int)) fun r0 =>
 tif ((!r0)) (
 some (0,1)) (
 a0a (u1s n w) fun r1 =>
 tif ((!r1)) (
 some (0,1)) (
 tif ((decide (w=0))) (
 none) (
 some ((IntKind.wrap .i64 (Int.tdiv t w)),0)))):=by kernel_rfl
theorem m1y (n:Nat) (now:Int) (w:Int) (n_:Int):a1s (n+1) now w n_ =
 a0a (x1i n now w) fun r0 =>
 tif ((!(decide (r0.2=0)))) (
 some (0,1)) (
 a0a (m1x n n_ (1:Int) (4096:Int)) fun r1 =>
 tif ((!r1)) (
 some (0,1)) (
 some ((if (0:Int)<(IntKind.wrap .i64 ((IntKind.wrap .i64 (r0.1+1))-n_)) then (IntKind.wrap .i64 ((IntKind.wrap .i64 (r0.1+1))-n_)) else (0:Int)),0))):=by kernel_rfl
theorem i1y (n:Nat) (l:(List a0c)) (w:Int):k0p (n+1) l w =
 tif ((decide ((((List.length l):Nat):Int)=0))) (
 some (2:Int)) (
 tif ((decide ((4096:Int)<(((List.length l):Nat):Int)))) (
 some (2:Int)) (
 tif ((decide (w<1))) (
 some (2:Int)) (
 tif ((decide ((1099511627776:Int)<w))) (
 some (2:Int)) (
 a0a (f0q n a0b (l,(w,(l,((((List.length l):Nat):Int),(0,())))))) fun r0 =>
 b0z (fun y1 =>
 some (0:Int)) (fun z2 =>
 some z2) r0)))):=by kernel_rfl
theorem p0y (n f:Nat) (l:(List a0c)) (w:Int) (s23:(List a0c)) (s24:Int) (s25:Int):f0q n (f+1) (l,w,s23,s24,s25,()) =
 tif ((decide (s25<s24))) (
 a0a (at? s23 s25) fun r0 =>
 a0a (q0i n r0) fun r1 =>
 tif ((!r1)) (
 a0a (i1r n r0.1 (((List.length l):Nat):Int)) fun r2 =>
 tif ((!(decide (r2=s25)))) (
 some (.inr (2:Int))) (
 a0a (k0y n r0.2 w r0.1) fun r3 =>
 tif ((!r3)) (
 some (.inr (2:Int))) (
 f0q n f (l,(w,(s23,(s24,((IntKind.wrap .i64 (s25+1)),())))))))) (
 f0q n f (l,(w,(s23,(s24,((IntKind.wrap .i64 (s25+1)),()))))))) (
 some (.inl ())):=by kernel_rfl
theorem o0w (n:Nat) (s:(List a0c)) (f_:((a0c×Unit)→Option Bool)):g0h (n+1) s f_ =
 a0a (i0c n s f_) fun r0 =>
 some (decide ((0:Int)≤r0)):=by kernel_rfl
theorem v0p (n:Nat) (s:a0c) (p1:Int):l0c (n+1) s p1 =
 tif ((decide ((0:Int)<s.2.1))) (
 some (decide (p1≤s.1))) (
 some false):=by kernel_rfl
theorem m1k (n:Nat) (c:c0q):o0e (n+1) c =
 a0a (r0n n c) fun r0 =>
 tif (r0) (
 some (0:Int)) (
 a0a (y0h n c) fun r1 =>
 tif ((!r1)) (
 some (2:Int)) (
 a0a (a1q n (18446744073709551615:Int)) fun r2 =>
 a0a (w0v n r2 (IntKind.wrap .u64 (IntKind.wrap .i64 (c.1-1)))) fun r3 =>
 tif ((!(decide (r3.2=0)))) (
 some (2:Int)) (
 a0a (a1r n r3.1 c.2.2.2.1) fun r4 =>
 tif (r4) (
 some (2:Int)) (
 a0a (c1t n c.2.2.2.2.2.1 (IntKind.wrap .i64 (c.1-1))) fun r5 =>
 tif ((!r5)) (
 some (2:Int)) (
 a0a (c1t n c.2.2.2.2.1 (IntKind.wrap .i64 ((IntKind.wrap .i64 (c.1-1))-c.2.2.2.2.2.1))) fun r6 =>
 tif ((!r6)) (
 some (2:Int)) (
 a0a (c1t n c.2.2.2.2.2.2 (IntKind.wrap .i64 (c.2.2.1.1-c.2.1.1))) fun r7 =>
 tif ((!r7)) (
 some (2:Int)) (
 some (0:Int)))))))):=by kernel_rfl
theorem r1c (n:Nat) (l:(List a0c)) (w:Int) (i:Int) (c:c0q):u0v (n+1) l w i c =
 a0a (k0p n l w) fun r0 =>
 tif ((!(decide (r0=0)))) (
 some ([],2)) (
 a0a (k0y n c w i) fun r1 =>
 tif ((!r1)) (
 some ([],2)) (
 a0a (k0e n l) fun r2 =>
 a0a (i1r n i (((List.length r2):Nat):Int)) fun r3 =>
 a0a (at? r2 r3) fun r4 =>
 a0a ((r2)[(Int.toNat r3)]?) fun r5 =>
 some ((List.set r2 (Int.toNat r3) (i,c)),0))):=by kernel_rfl
theorem f1g (n:Nat) (s:s0x) (i:Int):g0n (n+1) s (1:Int) i =
 tif ((decide (s.1.2.1.1=0))) (
 none) (
 a0a (u0x n s.2.1 (IntKind.wrap .i64 (i*(IntKind.wrap .i64 (Int.tdiv s.1.2.1.2.1 s.1.2.1.1)))) (IntKind.wrap .i64 ((IntKind.wrap .i64 (i+1))*(IntKind.wrap .i64 (Int.tdiv s.1.2.1.2.1 s.1.2.1.1))))) fun r0 =>
 some (r0.1,(r0.2,s))):=by kernel_rfl
theorem f1f (n:Nat) (s:s0x) (i:Int):g0n (n+1) s (2:Int) i =
 tif ((decide (s.1.2.1.2.1=0))) (
 none) (
 a0a (u0x n s.2.2.1 (IntKind.wrap .i64 (i*(IntKind.wrap .i64 (Int.tdiv s.1.2.1.2.2 s.1.2.1.2.1)))) (IntKind.wrap .i64 ((IntKind.wrap .i64 (i+1))*(IntKind.wrap .i64 (Int.tdiv s.1.2.1.2.2 s.1.2.1.2.1))))) fun r0 =>
 some (r0.1,(r0.2,s))):=by kernel_rfl
theorem f1h (n:Nat) (l:(List a0m)):l0o (n+1) l =
 a0a (i0w n a0b (l,((((List.length l):Nat):Int),(0,())))) fun r0 =>
 b0z (fun y1 =>
 some true) (fun z2 =>
 some z2) r0:=by kernel_rfl
theorem o0a (n f:Nat) (s5:(List a0m)) (s6:Int) (s7:Int):i0w n (f+1) (s5,s6,s7,()) =
 tif ((decide (s7<s6))) (
 a0a (at? s5 s7) fun r0 =>
 a0a (e0a n r0) fun r1 =>
 tif ((!(decide (r1=0)))) (
 some (.inr false)) (
 i0w n f (s5,(s6,((IntKind.wrap .i64 (s7+1)),()))))) (
 some (.inl ())):=by kernel_rfl
theorem x0m (n:Nat) (room:Int):t0e (n+1) room =
 tif ((decide (room<1))) (
 some (none,1)) (
 tif ((decide ((65536:Int)<room))) (
 some (none,1)) (
 some ((some (room,([],(0,0)))),0))):=by kernel_rfl
theorem s1d (n:Nat) (r:g0u) (i:Int):v1e (n+1) r i =
 tif ((decide ((((List.length r.2.1):Nat):Int)=0))) (
 none) (
 some ((Int.tmod (IntKind.wrap .i64 (r.2.2.1+i)) (((List.length r.2.1):Nat):Int)),r)):=by kernel_rfl
theorem q1e (n:Nat) (c:c0q):r0n (n+1) c =
 some ((decide (c.1=0))&&((decide (c.2.1.1=0))&&((decide (c.2.1.2.1=0))&&((decide (c.2.1.2.2.1=0))&&((c.2.1.2.2.2==false)&&((decide (c.2.2.1.1=0))&&((decide (c.2.2.1.2.1=0))&&((decide (c.2.2.1.2.2.1=0))&&((c.2.2.1.2.2.2==false)&&((decide (c.2.2.2.1.1=0))&&((decide (c.2.2.2.1.2=0))&&((decide (c.2.2.2.2.1=0))&&((decide (c.2.2.2.2.2.1=0))&&(decide (c.2.2.2.2.2.2=0))))))))))))))):=by kernel_rfl
theorem q1f (n:Nat) (a:c0q) (b:c0q):q1g (n+1) a b =
 a0a (p0p n a.2.2.1 b.2.1) fun r0 =>
 tif ((!(decide (r0.2=0)))) (
 some ((0,((0,(0,(0,false))),((0,(0,(0,false))),((0,0),(0,(0,0)))))),r0.2)) (
 a0a (i1p n (a.2.2.2.1::(r0.1.2.2.2.1::(b.2.2.2.1::[])))) fun r1 =>
 some (((IntKind.wrap .i64 (a.1+b.1)),(a.2.1,(b.2.2.1,(r1.1,((IntKind.wrap .i64 (r0.1.2.2.2.2.1+(IntKind.wrap .i64 (a.2.2.2.2.1+b.2.2.2.2.1)))),((IntKind.wrap .i64 (r0.1.2.2.2.2.2.1+(IntKind.wrap .i64 (a.2.2.2.2.2.1+b.2.2.2.2.2.1)))),(IntKind.wrap .i64 (r0.1.2.2.2.2.2.2+(IntKind.wrap .i64 (a.2.2.2.2.2.2+b.2.2.2.2.2.2)))))))))),r1.2)):=by kernel_rfl
theorem d1n (n:Nat) (n_:Int) (low:Int) (high:Int):o0m (n+1) n_ low high =
 tif ((decide (low≤n_))) (
 some (decide (n_≤high))) (
 some false):=by kernel_rfl
theorem q1v (n:Nat) (w:Int):u1s (n+1) w =
 a0a (o0m n w (1:Int) (1099511627776:Int)) fun r0 =>
 some r0:=by kernel_rfl
theorem m1w (n:Nat) (n_:Int) (low:Int) (high:Int):m1x (n+1) n_ low high =
 tif ((decide (low≤n_))) (
 some (decide (n_≤high))) (
 some false):=by kernel_rfl
theorem n1e (n:Nat) (s:a0c):q0i (n+1) s =
 some ((decide (s.1=0))&&((decide (s.2.1=0))&&((decide (s.2.2.1.1=0))&&((decide (s.2.2.1.2.1=0))&&((decide (s.2.2.1.2.2.1=0))&&((s.2.2.1.2.2.2==false)&&((decide (s.2.2.2.1.1=0))&&((decide (s.2.2.2.1.2.1=0))&&((decide (s.2.2.2.1.2.2.1=0))&&((s.2.2.2.1.2.2.2==false)&&((decide (s.2.2.2.2.1.1=0))&&((decide (s.2.2.2.2.1.2=0))&&((decide (s.2.2.2.2.2.1=0))&&((decide (s.2.2.2.2.2.2.1=0))&&(decide (s.2.2.2.2.2.2.2=0)))))))))))))))):=by kernel_rfl
theorem x1h (n:Nat) (i:Int) (n_:Int):i1r (n+1) i n_ =
 tif ((decide (i<0))) (
 some (0:Int)) (
 tif ((decide (n_<1))) (
 some (0:Int)) (
 tif ((decide (n_=0))) (
 none) (
 some (Int.tmod i n_)))):=by kernel_rfl
theorem j0v (n:Nat) (s:(List a0c)) (f_:((a0c×Unit)→Option Bool)):i0c (n+1) s f_ =
 a0a (c0y n a0b (s,(f_,((((List.length s):Nat):Int),(0,()))))) fun r0 =>
 b0z (fun y1 =>
 some ((-1):Int)) (fun z2 =>
 some z2) r0:=by kernel_rfl
theorem h0f (n f:Nat) (s:(List a0c)) (f_:((a0c×Unit)→Option Bool)) (s7:Int) (s8:Int):c0y n (f+1) (s,f_,s7,s8,()) =
 tif ((decide (s8<s7))) (
 a0a (at? s s8) fun r0 =>
 a0a (f_ (r0,())) fun r1 =>
 tif (r1) (
 some (.inr s8)) (
 c0y n f (s,(f_,(s7,((IntKind.wrap .i64 (s8+1)),())))))) (
 some (.inl ())):=by kernel_rfl
theorem m1h (n:Nat) (c:c0q):y0h (n+1) c =
 tif ((decide (c.1=1))) (
 tif (((decide (c.2.1.1=c.2.2.1.1))&&((decide (c.2.1.2.1=c.2.2.1.2.1))&&((decide (c.2.1.2.2.1=c.2.2.1.2.2.1))&&(c.2.1.2.2.2==c.2.2.1.2.2.2))))) (
 a0a (e0a n c.2.1) fun r0 =>
 some (decide (r0=0))) (
 some false)) (
 tif ((decide ((1:Int)<c.1))) (
 a0a (j0k n c.2.1 c.2.2.1) fun r1 =>
 tif (r1) (
 some (decide ((IntKind.wrap .i64 (c.1-1))≤(IntKind.wrap .i64 (c.2.2.1.1-c.2.1.1))))) (
 some false)) (
 some false)):=by kernel_rfl
theorem i1o (n:Nat) (a:(Int×Int)) (n_:Int):w0v (n+1) a n_ =
 a0a (f0j n a.2 n_) fun r0 =>
 a0a (f0j n a.1 n_) fun r1 =>
 tif (((decide ((0:Int)≤r1.2))&&((decide ((0:Int)≤r0.1))&&true))) (
 a0a (u0q n ((((r1.2+r0.1)+0) % (18446744073709551616:Int)),r0.2) (orI .u64 r1.1 (((r1.2+r0.1)+0) / (18446744073709551616:Int)))) fun r2 =>
 some r2) (
 none):=by kernel_rfl
theorem x1g (n:Nat) (n_:Int):a1q (n+1) n_ =
 some (0,n_):=by kernel_rfl
theorem m1v (n:Nat) (a:(Int×Int)) (b:(Int×Int)):a1r (n+1) a b =
 tif ((decide (a.1<b.1))) (
 some true) (
 tif ((decide (a.1=b.1))) (
 some (decide (a.2<b.2))) (
 some false)):=by kernel_rfl
theorem a2y (n:Nat) (n_:Int) (most:Int):c1t (n+1) n_ most =
 tif ((decide ((0:Int)≤n_))) (
 some (decide (n_≤most))) (
 some false):=by kernel_rfl
theorem z0p (n:Nat) (s:(List a0c)):k0e (n+1) s =
 tif ((decide ((List.length s)=0))) (
 both (
 some []) (
 tif ((decide (((0+(List.length s))*120)≤140737488355328))) (
 some ([]++s)) (
 none))) (
 tif ((decide (((0+(List.length s))*120)≤140737488355328))) (
 some ([]++s)) (
 none)):=by kernel_rfl
theorem n1i (n:Nat) (l:(List a0c)) (i:Int) (k:Int):u0x (n+1) l i k =
 tif ((decide (i<0))) (
 some ((0,((0,(0,(0,false))),((0,(0,(0,false))),((0,0),(0,(0,0)))))),1)) (
 tif ((decide (k<i))) (
 some ((0,((0,(0,(0,false))),((0,(0,(0,false))),((0,0),(0,(0,0)))))),1)) (
 a0a (j1a n l) fun r0 =>
 a0a (g0v n a0b (i,(k,((0,((0,(0,(0,false))),((0,(0,(0,false))),((0,0),(0,(0,0)))))),([],(r0,((((List.length r0):Nat):Int),(0,())))))))) fun r1 =>
 b0z (fun y2 =>
 a0a (m1l n y2.2.1) fun r3 =>
 some r3) (fun z4 =>
 some z4) r1)):=by kernel_rfl
theorem q0j (n f:Nat) (i:Int) (k:Int) (s6:c0q) (cells:(List c0q)) (s20:(List a0c)) (s21:Int) (s22:Int):g0v n (f+1) (i,k,s6,cells,s20,s21,s22,()) =
 tif ((decide (s22<s21))) (
 a0a (at? s20 s22) fun r0 =>
 tif ((decide (i≤r0.1))) (
 tif ((decide (r0.1<k))) (
 tif ((decide ((((List.length cells)+1)*112)≤140737488355328))) (
 g0v n f (i,(k,(s6,((cells++(r0.2::[])),(s20,(s21,((IntKind.wrap .i64 (s22+1)),())))))))) (
 none)) (
 g0v n f (i,(k,(s6,(cells,(s20,(s21,((IntKind.wrap .i64 (s22+1)),()))))))))) (
 g0v n f (i,(k,(s6,(cells,(s20,(s21,((IntKind.wrap .i64 (s22+1)),()))))))))) (
 some (.inl (s6,(cells,())))):=by kernel_rfl
theorem q1s (n:Nat) (l:(List (Int×Int))):i1p (n+1) l =
 a0a (o0l n a0b ((0,0),((0,0),(l,((((List.length l):Nat):Int),(0,())))))) fun r0 =>
 b0z (fun y1 =>
 some (y1.2.1,0)) (fun z2 =>
 some z2) r0:=by kernel_rfl
theorem s0y (n f:Nat) (s2:(Int×Int)) (a:(Int×Int)) (s9:(List (Int×Int))) (s10:Int) (s11:Int):o0l n (f+1) (s2,a,s9,s10,s11,()) =
 tif ((decide (s11<s10))) (
 a0a (at? s9 s11) fun r0 =>
 a0a (i1q n a r0) fun r1 =>
 tif ((!(decide (r1.2=0)))) (
 some (.inr ((0,0),r1.2))) (
 o0l n f (s2,(r1.1,(s9,(s10,((IntKind.wrap .i64 (s11+1)),()))))))) (
 some (.inl (s2,(a,())))):=by kernel_rfl
end Go.Proofs.YtjffajodppnejaaGreatDoor
