/- Trees, printed by program. -/
import Derived.Test.YtagnkfbpgkckiaaGreatDoorTr0
import Derived.KernelRfl
set_option linter.unusedVariables false
namespace Go.Proofs.YtagnkfbpgkckiaaGreatDoor
open Go.Flat
theorem n1z (n:Nat) (s:List UInt8):a1y (n+1) s =
 tif ((s==[])) (
 some false) (
 tif ((decide ((64:Int)<(((List.length s):Nat):Int)))) (
 some false) (
 a0a (at? s (0:Int)) fun r0 =>
 a0a (r0r n (((UInt8.toNat r0):Nat):Int)) fun r1 =>
 tif (r1) (
 some false) (
 a0a (h0s n (List.map (fun y2=>(((UInt8.toNat y2):Nat):Int)) s) (fun y3=>t0q n y3.1)) fun r4 =>
 some (!r4)))):=by kernel_rfl
theorem x1y (n:Nat) (s:a0r) (k:Int):z0l (n+1) s k =
 a0a (t1p n s k) fun r0 =>
 tif ((!(decide (r0=0)))) (
 some (0,(0,r0))) (
 tif ((decide (k=0))) (
 tif ((decide (k=0))) (
 a0a (f0o n s.2.1 s.1.2.1.1 s.1.2.2.1.1) fun r1 =>
 tif ((decide (s.1.2.1.1=0))) (
 none) (
 some (r1.1,((IntKind.wrap .i64 (Int.tdiv s.2.1 s.1.2.1.1)),r1.2)))) (
 tif ((decide (k=1))) (
 a0a (f0o n s.2.1 s.1.2.1.1 s.1.2.2.1.2.1) fun r2 =>
 tif ((decide (s.1.2.1.1=0))) (
 none) (
 some (r2.1,((IntKind.wrap .i64 (Int.tdiv s.2.1 s.1.2.1.1)),r2.2)))) (
 tif ((decide (k=2))) (
 a0a (f0o n s.2.1 s.1.2.1.1 s.1.2.2.1.2.2) fun r3 =>
 tif ((decide (s.1.2.1.1=0))) (
 none) (
 some (r3.1,((IntKind.wrap .i64 (Int.tdiv s.2.1 s.1.2.1.1)),r3.2)))) (
 none)))) (
 tif ((decide (k=1))) (
 tif ((decide (k=0))) (
 a0a (f0o n s.2.1 s.1.2.1.2.1 s.1.2.2.1.1) fun r4 =>
 tif ((decide (s.1.2.1.2.1=0))) (
 none) (
 some (r4.1,((IntKind.wrap .i64 (Int.tdiv s.2.1 s.1.2.1.2.1)),r4.2)))) (
 tif ((decide (k=1))) (
 a0a (f0o n s.2.1 s.1.2.1.2.1 s.1.2.2.1.2.1) fun r5 =>
 tif ((decide (s.1.2.1.2.1=0))) (
 none) (
 some (r5.1,((IntKind.wrap .i64 (Int.tdiv s.2.1 s.1.2.1.2.1)),r5.2)))) (
 tif ((decide (k=2))) (
 a0a (f0o n s.2.1 s.1.2.1.2.1 s.1.2.2.1.2.2) fun r6 =>
 tif ((decide (s.1.2.1.2.1=0))) (
 none) (
 some (r6.1,((IntKind.wrap .i64 (Int.tdiv s.2.1 s.1.2.1.2.1)),r6.2)))) (
 none)))) (
 tif ((decide (k=2))) (
 tif ((decide (k=0))) (
 a0a (f0o n s.2.1 s.1.2.1.2.2 s.1.2.2.1.1) fun r7 =>
 tif ((decide (s.1.2.1.2.2=0))) (
 none) (
 some (r7.1,((IntKind.wrap .i64 (Int.tdiv s.2.1 s.1.2.1.2.2)),r7.2)))) (
 tif ((decide (k=1))) (
 a0a (f0o n s.2.1 s.1.2.1.2.2 s.1.2.2.1.2.1) fun r8 =>
 tif ((decide (s.1.2.1.2.2=0))) (
 none) (
 some (r8.1,((IntKind.wrap .i64 (Int.tdiv s.2.1 s.1.2.1.2.2)),r8.2)))) (
 tif ((decide (k=2))) (
 a0a (f0o n s.2.1 s.1.2.1.2.2 s.1.2.2.1.2.2) fun r9 =>
 tif ((decide (s.1.2.1.2.2=0))) (
 none) (
 some (r9.1,((IntKind.wrap .i64 (Int.tdiv s.2.1 s.1.2.1.2.2)),r9.2)))) (
 none)))) (
 none)))):=by kernel_rfl
theorem m1b (n:Nat) (i:Int) (p1:a0r) (p2:(List (List UInt8×List UInt8))) (p3:a0r):g0s (n+1) i p1 p2 p3 =
 a0a (at? p1.2.2.2 i) fun r0 =>
 a0a (p0x n r0.1 p2) fun r1 =>
 tif (r1) (
 a0a (f0w n p3 i) fun r2 =>
 some r2) (
 some false):=by kernel_rfl
theorem e1h (n:Nat) (w:Int):l1k (n+1) w =
 a0a (q0p n w (1:Int) (1099511627776:Int)) fun r0 =>
 some r0:=by kernel_rfl
theorem m1f (n:Nat) (s:c0n) (i:Int) (j:Int):q0v (n+1) s (0:Int) i j =
 tif ((decide (s.2.2.1=((-1):Int)))) (
 some ((0,((0,(0,(0,false))),((0,(0,(0,false))),((0,0),(0,(0,0)))))),0)) (
 tif ((decide (s.1.2.1.1=0))) (
 none) (
 a0a (m0o n s.2.2.2.2.1.1 i j) fun r0 =>
 tif ((!(decide (r0.2=0)))) (
 some r0) (
 tif ((decide ((IntKind.wrap .i64 (Int.tdiv s.2.2.1 s.1.2.1.1))<i))) (
 some r0) (
 tif ((decide (j≤(IntKind.wrap .i64 (Int.tdiv s.2.2.1 s.1.2.1.1))))) (
 some r0) (
 a0a (m0s n s (0:Int)) fun r1 =>
 tif ((!(decide (r1.2=0)))) (
 some ((0,((0,(0,(0,false))),((0,(0,(0,false))),((0,0),(0,(0,0)))))),r1.2)) (
 a0a (i0t n r0.1 r1.1) fun r2 =>
 some r2)))))):=by kernel_rfl
theorem m1e (n:Nat) (s:c0n) (i:Int) (j:Int):q0v (n+1) s (1:Int) i j =
 tif ((decide (s.2.2.1=((-1):Int)))) (
 some ((0,((0,(0,(0,false))),((0,(0,(0,false))),((0,0),(0,(0,0)))))),0)) (
 tif ((decide (s.1.2.1.2.1=0))) (
 none) (
 a0a (m0o n s.2.2.2.2.1.2.1 i j) fun r0 =>
 tif ((!(decide (r0.2=0)))) (
 some r0) (
 tif ((decide ((IntKind.wrap .i64 (Int.tdiv s.2.2.1 s.1.2.1.2.1))<i))) (
 some r0) (
 tif ((decide (j≤(IntKind.wrap .i64 (Int.tdiv s.2.2.1 s.1.2.1.2.1))))) (
 some r0) (
 a0a (m0s n s (1:Int)) fun r1 =>
 tif ((!(decide (r1.2=0)))) (
 some ((0,((0,(0,(0,false))),((0,(0,(0,false))),((0,0),(0,(0,0)))))),r1.2)) (
 a0a (i0t n r0.1 r1.1) fun r2 =>
 some r2)))))):=by kernel_rfl
theorem m1d (n:Nat) (s:c0n) (i:Int) (j:Int):q0v (n+1) s (2:Int) i j =
 tif ((decide (s.2.2.1=((-1):Int)))) (
 some ((0,((0,(0,(0,false))),((0,(0,(0,false))),((0,0),(0,(0,0)))))),0)) (
 tif ((decide (s.1.2.1.2.2=0))) (
 none) (
 a0a (m0o n s.2.2.2.2.1.2.2 i j) fun r0 =>
 tif ((!(decide (r0.2=0)))) (
 some r0) (
 tif ((decide ((IntKind.wrap .i64 (Int.tdiv s.2.2.1 s.1.2.1.2.2))<i))) (
 some r0) (
 tif ((decide (j≤(IntKind.wrap .i64 (Int.tdiv s.2.2.1 s.1.2.1.2.2))))) (
 some r0) (
 a0a (m0s n s (2:Int)) fun r1 =>
 tif ((!(decide (r1.2=0)))) (
 some ((0,((0,(0,(0,false))),((0,(0,(0,false))),((0,0),(0,(0,0)))))),r1.2)) (
 a0a (i0t n r0.1 r1.1) fun r2 =>
 some r2)))))):=by kernel_rfl
theorem l1h (n:Nat) (a:(Int×Int)) (n_:Int):u0h (n+1) a n_ =
 a0a (g0i n a.2 n_) fun r0 =>
 a0a (g0i n a.1 n_) fun r1 =>
 tif (((decide ((0:Int)≤r1.2))&&((decide ((0:Int)≤r0.1))&&true))) (
 a0a (s0r n ((((r1.2+r0.1)+0) % (18446744073709551616:Int)),r0.2) (orI .u64 r1.1 (((r1.2+r0.1)+0) / (18446744073709551616:Int)))) fun r2 =>
 some r2) (
 none):=by kernel_rfl
theorem f1i (n:Nat) (num:(Int×Int)) (den:(Int×Int)):t0j (n+1) num den =
 a0a (m0d n den) fun r0 =>
 tif (r0) (
 some (((0,0),(0,0)),1)) (
 a0a (f1j n num den) fun r1 =>
 a0a (r0i n num r1) fun r2 =>
 a0a (r0i n den r1) fun r3 =>
 some ((r2,r3),0)):=by kernel_rfl
theorem a2v (n:Nat) (n_:Int):w0d (n+1) n_ =
 some (0,n_):=by kernel_rfl
theorem u0a (n:Nat) (w:(List Int)) (width:Int) (n_:Int):a0q (n+1) w width n_ =
 tif ((decide (width<1))) (
 some w) (
 tif ((decide ((8:Int)<width))) (
 some w) (
 a0a (e0l n a0b (w,(n_,((IntKind.wrap .i64 ((8:Int)*(IntKind.wrap .i64 (width-1)))),())))) fun r0 =>
 b0z (fun y1 =>
 some y1.1) (fun z2 =>
 some z2) r0)):=by kernel_rfl
theorem i0r (n f:Nat) (w:(List Int)) (n_:Int) (up:Int):e0l n (f+1) (w,n_,up,()) =
 tif ((decide ((0:Int)≤up))) (
 tif ((decide (up<0))) (
 none) (
 tif ((decide ((((List.length w)+1)*1)≤140737488355328))) (
 e0l n f ((w++((IntKind.wrap .u8 (shrI .u64 n_ up))::[])),(n_,((IntKind.wrap .i64 (up-8)),())))) (
 none))) (
 some (.inl (w,()))):=by kernel_rfl
theorem s0k (n:Nat) (x:Int) (y:Int):r0p (n+1) x y =
 a0a (g0i n x y) fun r0 =>
 some r0:=by kernel_rfl
theorem i1o (n:Nat) (l:(List (List UInt8×List UInt8))):w0w (n+1) l =
 a0a (i0h n l) fun r0 =>
 tif ((!(decide (r0=0)))) (
 some ([],r0)) (
 a0a (h0b n [] (IntKind.wrap .u64 (((List.length l):Nat):Int))) fun r1 =>
 a0a (k0h n a0b (r1,(l,((((List.length l):Nat):Int),(0,()))))) fun r2 =>
 b0z (fun y3 =>
 a0a (c0u n y3.1) fun r4 =>
 some (r4.1,0)) (fun z5 =>
 some z5) r2):=by kernel_rfl
theorem p0z (n f:Nat) (w:(List Int)) (s17:(List (List UInt8×List UInt8))) (s18:Int) (s19:Int):k0h n (f+1) (w,s17,s18,s19,()) =
 tif ((decide (s19<s18))) (
 a0a (at? s17 s19) fun r0 =>
 a0a (h0d n w r0.1) fun r1 =>
 a0a (h0d n r1 r0.2) fun r2 =>
 k0h n f (r2,(s17,(s18,((IntKind.wrap .i64 (s19+1)),()))))) (
 some (.inl (w,()))):=by kernel_rfl
theorem i1q (n:Nat) (w:(List Int)) (e:a0o):n0l (n+1) w e =
 a0a (n0n n w (e.1::((IntKind.wrap .i64 e.2.1)::(e.2.2.1::[])))) fun r0 =>
 tif (e.2.2.2) (
 a0a (a0q n r0 (1:Int) (1:Int)) fun r1 =>
 some r1) (
 a0a (a0q n r0 (1:Int) (0:Int)) fun r2 =>
 some r2):=by kernel_rfl
theorem s0o (n:Nat) (s:(List (List UInt8))) (f_:((List UInt8×Unit)→Option Bool)):m0u (n+1) s f_ =
 a0a (c0x n a0b (s,(f_,((((List.length s):Nat):Int),(0,()))))) fun r0 =>
 b0z (fun y1 =>
 some ((-1):Int)) (fun z2 =>
 some z2) r0:=by kernel_rfl
theorem h0y (n f:Nat) (s:(List (List UInt8))) (f_:((List UInt8×Unit)→Option Bool)) (s7:Int) (s8:Int):c0x n (f+1) (s,f_,s7,s8,()) =
 tif ((decide (s8<s7))) (
 a0a (at? s s8) fun r0 =>
 a0a (f_ (r0,())) fun r1 =>
 tif (r1) (
 some (.inr s8)) (
 c0x n f (s,(f_,(s7,((IntKind.wrap .i64 (s8+1)),())))))) (
 some (.inl ())):=by kernel_rfl
theorem p1c (n:Nat) (n_:Int) (by_:Int):m0h (n+1) n_ by_ =
 tif ((decide (by_=0))) (
 none) (
 some (IntKind.wrap .i64 (Int.tdiv (IntKind.wrap .i64 ((IntKind.wrap .i64 (n_+by_))-1)) by_))):=by kernel_rfl
theorem e1t (n:Nat) (elems:(List (List UInt8))) (sep:List UInt8):strings_Join (n+1) elems sep =
 tif ((decide ((((List.length elems):Nat):Int)=0))) (
 some []) (
 tif ((decide ((((List.length elems):Nat):Int)=1))) (
 a0a (at? elems (0:Int)) fun r0 =>
 some r0) (
 tif ((decide ((0:Int)<(((List.length sep):Nat):Int)))) (
 tif ((decide ((IntKind.wrap .i64 ((((List.length elems):Nat):Int)-1))=0))) (
 none) (
 tif ((decide ((IntKind.wrap .i64 (Int.tdiv (9223372036854775807:Int) (IntKind.wrap .i64 ((((List.length elems):Nat):Int)-1))))≤(((List.length sep):Nat):Int)))) (
 none) (
 a0a (f0q n a0b (elems,(sep,((IntKind.wrap .i64 ((0:Int)+(IntKind.wrap .i64 ((((List.length sep):Nat):Int)*(IntKind.wrap .i64 ((((List.length elems):Nat):Int)-1)))))),(elems,((((List.length elems):Nat):Int),((0:Int),()))))))) fun r1 =>
 b0z (fun y2 =>
 a0a (b0v n [] y2.2.2.1) fun r3 =>
 a0a (at? y2.1 (0:Int)) fun r4 =>
 a0a (a0m n r3 r4) fun r5 =>
 tif ((decide (1≤(List.length y2.1)))) (
 a0a (f0p n a0b (y2.2.1,(r5.2.2,((List.drop 1 (List.take (List.length y2.1) y2.1)),((((List.length (List.drop 1 (List.take (List.length y2.1) y2.1))):Nat):Int),((0:Int),())))))) fun r6 =>
 b0z (fun y7 =>
 a0a (b0o n y7.1) fun r8 =>
 some r8.1) (fun z9 =>
 some z9) r6) (
 none)) (fun z10 =>
 some z10) r1))) (
 a0a (f0q n a0b (elems,(sep,((0:Int),(elems,((((List.length elems):Nat):Int),((0:Int),()))))))) fun r11 =>
 b0z (fun y12 =>
 a0a (b0v n [] y12.2.2.1) fun r13 =>
 a0a (at? y12.1 (0:Int)) fun r14 =>
 a0a (a0m n r13 r14) fun r15 =>
 tif ((decide (1≤(List.length y12.1)))) (
 a0a (f0p n a0b (y12.2.1,(r15.2.2,((List.drop 1 (List.take (List.length y12.1) y12.1)),((((List.length (List.drop 1 (List.take (List.length y12.1) y12.1))):Nat):Int),((0:Int),())))))) fun r16 =>
 b0z (fun y17 =>
 a0a (b0o n y17.1) fun r18 =>
 some r18.1) (fun z19 =>
 some z19) r16) (
 none)) (fun z20 =>
 some z20) r11))):=by kernel_rfl
theorem m0r (n f:Nat) (elems:(List (List UInt8))) (sep:List UInt8) (n_:Int) (s39:(List (List UInt8))) (s40:Int) (s41:Int):f0q n (f+1) (elems,sep,n_,s39,s40,s41,()) =
 tif ((decide (s41<s40))) (
 a0a (at? s39 s41) fun r0 =>
 tif ((decide ((IntKind.wrap .i64 ((9223372036854775807:Int)-n_))<(((List.length r0):Nat):Int)))) (
 none) (
 f0q n f (elems,(sep,((IntKind.wrap .i64 (n_+(((List.length r0):Nat):Int))),(s39,(s40,((IntKind.wrap .i64 (s41+1)),())))))))) (
 some (.inl (elems,(sep,(n_,()))))):=by kernel_rfl
theorem m0q (n f:Nat) (sep:List UInt8) (b:List UInt8) (s63:(List (List UInt8))) (s64:Int) (s65:Int):f0p n (f+1) (sep,b,s63,s64,s65,()) =
 tif ((decide (s65<s64))) (
 a0a (at? s63 s65) fun r0 =>
 a0a (a0m n b sep) fun r1 =>
 a0a (a0m n r1.2.2 r0) fun r2 =>
 f0p n f (sep,(r2.2.2,(s63,(s64,((IntKind.wrap .i64 (s65+1)),())))))) (
 some (.inl (b,()))):=by kernel_rfl
theorem l0s (n:Nat) (r:(List UInt8×Bool)):d0s (n+1) r =
 a0a (e0r n a0b (r,(0,((if (10:Int)<(((List.length r.1):Nat):Int) then (10:Int) else (((List.length r.1):Nat):Int)),(0,()))))) fun r0 =>
 b0z (fun y1 =>
 a0a (b0u n y1.1) fun r2 =>
 some (0,r2)) (fun z3 =>
 some z3) r0:=by kernel_rfl
theorem f0m (n f:Nat) (r:(List UInt8×Bool)) (n_:Int) (s11:Int) (s12:Int):e0r n (f+1) (r,n_,s11,s12,()) =
 tif ((decide (s12<s11))) (
 a0a (at? r.1 s12) fun r0 =>
 tif ((decide ((IntKind.wrap .i64 ((7:Int)*s12))<0))) (
 none) (
 tif ((decide (s12=9))) (
 tif ((decide ((1:Int)<(((UInt8.toNat r0):Nat):Int)))) (
 some (.inl (r,()))) (
 tif ((!(decide ((andI .u8 (((UInt8.toNat r0):Nat):Int) (128:Int))=0)))) (
 e0r n f (r,((orI .u64 n_ (shlI .u64 (IntKind.wrap .u64 (n0x .u8 (((UInt8.toNat r0):Nat):Int) (128:Int))) (IntKind.wrap .i64 ((7:Int)*s12)))),(s11,((IntKind.wrap .i64 (s12+1)),()))))) (
 tif ((decide ((((UInt8.toNat r0):Nat):Int)=0))) (
 tif ((decide ((0:Int)<s12))) (
 some (.inl (r,()))) (
 tif ((decide ((0:Int)≤(IntKind.wrap .i64 (s12+1))))) (
 tif ((decide ((Int.toNat (IntKind.wrap .i64 (s12+1)))≤(List.length r.1)))) (
 some (.inr ((orI .u64 n_ (shlI .u64 (IntKind.wrap .u64 (n0x .u8 (((UInt8.toNat r0):Nat):Int) (128:Int))) (IntKind.wrap .i64 ((7:Int)*s12)))),((List.drop (Int.toNat (IntKind.wrap .i64 (s12+1))) (List.take (List.length r.1) r.1)),r.2)))) (
 none)) (
 none))) (
 tif ((decide ((0:Int)≤(IntKind.wrap .i64 (s12+1))))) (
 tif ((decide ((Int.toNat (IntKind.wrap .i64 (s12+1)))≤(List.length r.1)))) (
 some (.inr ((orI .u64 n_ (shlI .u64 (IntKind.wrap .u64 (n0x .u8 (((UInt8.toNat r0):Nat):Int) (128:Int))) (IntKind.wrap .i64 ((7:Int)*s12)))),((List.drop (Int.toNat (IntKind.wrap .i64 (s12+1))) (List.take (List.length r.1) r.1)),r.2)))) (
 none)) (
 none))))) (
 tif ((!(decide ((andI .u8 (((UInt8.toNat r0):Nat):Int) (128:Int))=0)))) (
 e0r n f (r,((orI .u64 n_ (shlI .u64 (IntKind.wrap .u64 (n0x .u8 (((UInt8.toNat r0):Nat):Int) (128:Int))) (IntKind.wrap .i64 ((7:Int)*s12)))),(s11,((IntKind.wrap .i64 (s12+1)),()))))) (
 tif ((decide ((((UInt8.toNat r0):Nat):Int)=0))) (
 tif ((decide ((0:Int)<s12))) (
 some (.inl (r,()))) (
 tif ((decide ((0:Int)≤(IntKind.wrap .i64 (s12+1))))) (
 tif ((decide ((Int.toNat (IntKind.wrap .i64 (s12+1)))≤(List.length r.1)))) (
 some (.inr ((orI .u64 n_ (shlI .u64 (IntKind.wrap .u64 (n0x .u8 (((UInt8.toNat r0):Nat):Int) (128:Int))) (IntKind.wrap .i64 ((7:Int)*s12)))),((List.drop (Int.toNat (IntKind.wrap .i64 (s12+1))) (List.take (List.length r.1) r.1)),r.2)))) (
 none)) (
 none))) (
 tif ((decide ((0:Int)≤(IntKind.wrap .i64 (s12+1))))) (
 tif ((decide ((Int.toNat (IntKind.wrap .i64 (s12+1)))≤(List.length r.1)))) (
 some (.inr ((orI .u64 n_ (shlI .u64 (IntKind.wrap .u64 (n0x .u8 (((UInt8.toNat r0):Nat):Int) (128:Int))) (IntKind.wrap .i64 ((7:Int)*s12)))),((List.drop (Int.toNat (IntKind.wrap .i64 (s12+1))) (List.take (List.length r.1) r.1)),r.2)))) (
 none)) (
 none)))))) (
 some (.inl (r,()))):=by kernel_rfl
theorem v0g (n:Nat) (r:(List UInt8×Bool)) (long:Int):h0e (n+1) r long =
 a0a (d0s n r) fun r0 =>
 tif ((decide (long<0))) (
 a0a (b0u n r0.2) fun r1 =>
 some ([],r1)) (
 tif ((decide ((IntKind.wrap .u64 long)<r0.1))) (
 a0a (b0u n r0.2) fun r2 =>
 some ([],r2)) (
 tif ((decide ((IntKind.wrap .u64 (((List.length r0.2.1):Nat):Int))<r0.1))) (
 a0a (b0u n r0.2) fun r3 =>
 some ([],r3)) (
 a0a (e0d n r0.2 (IntKind.wrap .i64 r0.1)) fun r4 =>
 some r4))):=by kernel_rfl
theorem z0e (n:Nat) (r:(List UInt8×Bool)):g0j (n+1) r =
 a0a (a0e n r (8:Int)) fun r0 =>
 a0a (a0e n r0.2 (8:Int)) fun r1 =>
 a0a (a0e n r1.2 (8:Int)) fun r2 =>
 a0a (a0e n r2.2 (1:Int)) fun r3 =>
 some (((IntKind.wrap .i64 r0.1),(r1.1,((IntKind.wrap .i64 r2.1),(decide (r3.1=1))))),r3.2):=by kernel_rfl
theorem a1e (n:Nat) (s1:(List a0o)) (s2:(List a0o)):o0z (n+1) s1 s2 =
 tif ((!(decide ((((List.length s1):Nat):Int)=(((List.length s2):Nat):Int))))) (
 some false) (
 a0a (g0u n a0b (s1,(s2,((((List.length s1):Nat):Int),(0,()))))) fun r0 =>
 b0z (fun y1 =>
 some true) (fun z2 =>
 some z2) r0):=by kernel_rfl
theorem l0p (n f:Nat) (s1:(List a0o)) (s2:(List a0o)) (s12:Int) (s13:Int):g0u n (f+1) (s1,s2,s12,s13,()) =
 tif ((decide (s13<s12))) (
 a0a (at? s1 s13) fun r0 =>
 a0a (at? s2 s13) fun r1 =>
 tif ((!((decide (r0.1=r1.1))&&((decide (r0.2.1=r1.2.1))&&((decide (r0.2.2.1=r1.2.2.1))&&(r0.2.2.2==r1.2.2.2)))))) (
 some (.inr false)) (
 g0u n f (s1,(s2,(s12,((IntKind.wrap .i64 (s13+1)),())))))) (
 some (.inl ())):=by kernel_rfl
theorem i1b (n:Nat) (c:c0e) (last:Int) (now:Int):w0m (n+1) c last now =
 a0a (e0b n c) fun r0 =>
 tif ((decide (r0=0))) (
 a0a (e1i n last now c.2.1.1 c.2.2.1.1) fun r1 =>
 tif (r1) (
 a0a (e1i n last now c.2.1.2.1 c.2.2.1.2.1) fun r2 =>
 tif (r2) (
 a0a (e1i n last now c.2.1.2.2 c.2.2.1.2.2) fun r3 =>
 tif (r3) (
 some r3) (
 some r3)) (
 some r2)) (
 some r1)) (
 some (decide (r0=0))):=by kernel_rfl
theorem wi_Of_eq (n:Nat) (t:Int) (w:Int):a2y (n+1) t w =
 a0a (q0p n t (0:Int) (35184372088831:Int)) fun r0 =>
 tif ((!r0)) (
 some (0,1)) (
 a0a (l1k n w) fun r1 =>
 tif ((!r1)) (
 some (0,1)) (
 tif ((decide (w=0))) (
 none) (
 some ((IntKind.wrap .i64 (Int.tdiv t w)),0)))):=by kernel_rfl
theorem p1x (n:Nat) (n_:Int) (low:Int) (high:Int):p1y (n+1) n_ low high =
 tif ((decide (low≤n_))) (
 some (decide (n_≤high))) (
 some false):=by kernel_rfl
theorem c1z (n:Nat) (s:(List a0c)):r0c (n+1) s =
 tif ((decide ((List.length s)=0))) (
 both (
 some []) (
 tif ((decide (((0+(List.length s))*120)≤140737488355328))) (
 some ([]++s)) (
 none))) (
 tif ((decide (((0+(List.length s))*120)≤140737488355328))) (
 some ([]++s)) (
 none)):=by kernel_rfl
theorem o1l (n:Nat) (c:c0e) (s:((List a0c)×((List a0c)×(List a0c)))):b1d (n+1) c s =
 a0a (g1g n c s) fun r0 =>
 oelim (r0.1) (
 some r0.2) fun r1 =>
 some r0.2:=by kernel_rfl
theorem r1g (n:Nat) (r:(Int×(Int×(List a0o)))) (room:Int):f1h (n+1) r room =
 tif ((decide (room<1))) (
 some (2:Int)) (
 tif ((decide ((4096:Int)<room))) (
 some (2:Int)) (
 tif ((decide (room<(((List.length r.2.2):Nat):Int)))) (
 some (2:Int)) (
 tif ((decide (r.1<0))) (
 some (2:Int)) (
 tif ((decide ((70368744177664:Int)<r.1))) (
 some (2:Int)) (
 a0a (a1j n r.2.2) fun r0 =>
 tif ((!r0)) (
 some (2:Int)) (
 a0a (k1e n r room) fun r1 =>
 tif ((!r1)) (
 some (2:Int)) (
 some (0:Int)))))))):=by kernel_rfl
theorem q1x (n:Nat) (s:c0n):e1u (n+1) s =
 tif ((decide ((((List.length s.2.2.2.1.2.2):Nat):Int)=0))) (
 tif (((decide (s.2.2.2.2.2.1=0))&&((decide (s.2.2.2.2.2.2.1=0))&&((decide (s.2.2.2.2.2.2.2.1.1=0))&&((decide (s.2.2.2.2.2.2.2.1.2.1=0))&&((decide (s.2.2.2.2.2.2.2.1.2.2.1=0))&&((s.2.2.2.2.2.2.2.1.2.2.2==false)&&((decide (s.2.2.2.2.2.2.2.2.1.1=0))&&((decide (s.2.2.2.2.2.2.2.2.1.2.1=0))&&((decide (s.2.2.2.2.2.2.2.2.1.2.2.1=0))&&((s.2.2.2.2.2.2.2.2.1.2.2.2==false)&&((decide (s.2.2.2.2.2.2.2.2.2.1.1=0))&&((decide (s.2.2.2.2.2.2.2.2.2.1.2=0))&&((decide (s.2.2.2.2.2.2.2.2.2.2.1=0))&&((decide (s.2.2.2.2.2.2.2.2.2.2.2.1=0))&&(decide (s.2.2.2.2.2.2.2.2.2.2.2.2=0))))))))))))))))) (
 a0a (e0f n s.2.2.2.2.1.1 (0:Int)) fun r0 =>
 tif ((!r0)) (
 a0a (e0f n s.2.2.2.2.1.2.1 (0:Int)) fun r1 =>
 tif ((!r1)) (
 a0a (e0f n s.2.2.2.2.1.2.2 (0:Int)) fun r2 =>
 some (!r2)) (
 some false)) (
 some false)) (
 some false)) (
 some false):=by kernel_rfl
theorem v1i (n:Nat) (s:c0n):d1q (n+1) s =
 a0a (m1s n s.2.2.2.1) fun r0 =>
 tif ((decide (r0.2=0))) (
 tif ((decide (r0.1.1=s.2.2.1))) (
 tif ((decide (s.2.2.2.2.2.2.2.2.1.1=s.2.2.1))) (
 a0a (x0t n s.2.2.2.2.2.2 s.1.2.1.1 s.2.2.2.2.2.1) fun r1 =>
 tif (r1) (
 tif ((decide (s.1.2.1.1=0))) (
 none) (
 a0a (e0f n s.2.2.2.2.1.1 (IntKind.wrap .i64 (Int.tdiv s.2.2.1 s.1.2.1.1))) fun r2 =>
 tif ((!r2)) (
 tif ((decide (s.1.2.1.2.1=0))) (
 none) (
 a0a (e0f n s.2.2.2.2.1.2.1 (IntKind.wrap .i64 (Int.tdiv s.2.2.1 s.1.2.1.2.1))) fun r3 =>
 tif ((!r3)) (
 tif ((decide (s.1.2.1.2.2=0))) (
 none) (
 a0a (e0f n s.2.2.2.2.1.2.2 (IntKind.wrap .i64 (Int.tdiv s.2.2.1 s.1.2.1.2.2))) fun r4 =>
 some (!r4))) (
 some false))) (
 some false))) (
 some false)) (
 some false)) (
 some false)) (
 some false):=by kernel_rfl
theorem p1t (n:Nat) (a:(Int×Int)) (over:Int):s0r (n+1) a over =
 tif ((!(decide (over=0)))) (
 some ((0,0),1)) (
 some (a,0)):=by kernel_rfl
theorem q0y (n:Nat) (s:(List (Int×(List UInt8×List UInt8)))) (f_:(((Int×(List UInt8×List UInt8))×Unit)→Option Bool)):l0n (n+1) s f_ =
 a0a (c0r n a0b (s,(f_,((((List.length s):Nat):Int),(0,()))))) fun r0 =>
 b0z (fun y1 =>
 some ((-1):Int)) (fun z2 =>
 some z2) r0:=by kernel_rfl
theorem h0m (n f:Nat) (s:(List (Int×(List UInt8×List UInt8)))) (f_:(((Int×(List UInt8×List UInt8))×Unit)→Option Bool)) (s7:Int) (s8:Int):c0r n (f+1) (s,f_,s7,s8,()) =
 tif ((decide (s8<s7))) (
 a0a (at? s s8) fun r0 =>
 a0a (f_ (r0,())) fun r1 =>
 tif (r1) (
 some (.inr s8)) (
 c0r n f (s,(f_,(s7,((IntKind.wrap .i64 (s8+1)),())))))) (
 some (.inl ())):=by kernel_rfl
theorem i1m (n:Nat) (l:(List (List UInt8×List UInt8))) (n_:List UInt8):w0v (n+1) l n_ =
 a0a (o0d n l (fun y0=>r0s n y0.1 n_)) fun r1 =>
 tif ((decide (r1<0))) (
 some []) (
 a0a (at? l r1) fun r2 =>
 some r2.2):=by kernel_rfl
theorem v0b (n:Nat) (s:List UInt8) (prefix_:List UInt8):strings_HasPrefix (n+1) s prefix_ =
 a0a (stringslite_HasPrefix n s prefix_) fun r0 =>
 some r0:=by kernel_rfl
theorem g1b (n:Nat) (c:Int):t0q (n+1) c =
 a0a (a1x n c) fun r0 =>
 some (!r0):=by kernel_rfl
theorem v0d (n:Nat) (w:(List Int)) (n_:Int):h0b (n+1) w n_ =
 a0a (e0q n a0b (w,(n_,()))) fun r0 =>
 b0z (fun y1 =>
 tif ((decide ((((List.length y1.1)+1)*1)≤140737488355328))) (
 some (y1.1++((IntKind.wrap .u8 y1.2.1)::[]))) (
 none)) (fun z2 =>
 some z2) r0:=by kernel_rfl
theorem s0c (n f:Nat) (w:(List Int)) (n_:Int):e0q n (f+1) (w,n_,()) =
 tif ((decide ((128:Int)≤n_))) (
 tif ((decide ((((List.length w)+1)*1)≤140737488355328))) (
 e0q n f ((w++((orI .u8 (IntKind.wrap .u8 n_) (128:Int))::[])),((shrI .u64 n_ (7:Int)),()))) (
 none)) (
 some (.inl (w,(n_,())))):=by kernel_rfl
theorem v0e (n:Nat) (w:(List Int)) (s:List UInt8):h0d (n+1) w s =
 a0a (h0b n w (IntKind.wrap .u64 (((List.length s):Nat):Int))) fun r0 =>
 a0a (e0c n r0 s) fun r1 =>
 some r1:=by kernel_rfl
theorem a2z (n:Nat) (t:Int) (now:Int) (w:Int) (n_:Int):e1i (n+1) t now w n_ =
 a0a (a2y n t w) fun r0 =>
 a0a (f0o n now w n_) fun r1 =>
 tif ((decide (r0.2=0))) (
 tif ((decide (r1.2=0))) (
 some (decide (r0.1<r1.1))) (
 some false)) (
 some false):=by kernel_rfl
theorem t1c (n:Nat) (c:c0e) (s:((List a0c)×((List a0c)×(List a0c)))):g1g (n+1) c s =
 a0a (e0b n c) fun r0 =>
 tif ((!(decide (r0=0)))) (
 some (none,r0)) (
 tif ((!(decide ((((List.length s.1):Nat):Int)=c.2.2.1.1)))) (
 some (none,2)) (
 a0a (p0l n s.1 c.2.1.1) fun r1 =>
 tif ((!(decide (r1=0)))) (
 some (none,2)) (
 tif ((!(decide ((((List.length s.2.1):Nat):Int)=c.2.2.1.2.1)))) (
 some (none,2)) (
 a0a (p0l n s.2.1 c.2.1.2.1) fun r2 =>
 tif ((!(decide (r2=0)))) (
 some (none,2)) (
 tif ((!(decide ((((List.length s.2.2):Nat):Int)=c.2.2.1.2.2)))) (
 some (none,2)) (
 a0a (p0l n s.2.2 c.2.1.2.2) fun r3 =>
 tif ((!(decide (r3=0)))) (
 some (none,2)) (
 some ((some (c,s)),0)))))))):=by kernel_rfl
theorem m1p (n:Nat) (l:(List a0o)):a1j (n+1) l =
 a0a (g0w n a0b (l,(l,((((List.length l):Nat):Int),(0,()))))) fun r0 =>
 b0z (fun y1 =>
 some true) (fun z2 =>
 some z2) r0:=by kernel_rfl
theorem s0j (n f:Nat) (l:(List a0o)) (s5:(List a0o)) (s6:Int) (s7:Int):g0w n (f+1) (l,s5,s6,s7,()) =
 tif ((decide (s7<s6))) (
 a0a (at? s5 s7) fun r0 =>
 a0a (n0s n r0) fun r1 =>
 tif ((!(decide (r1=0)))) (
 some (.inr false)) (
 tif ((decide ((0:Int)<s7))) (
 a0a (at? l (IntKind.wrap .i64 (s7-1))) fun r2 =>
 a0a (o0o n r2 r0) fun r3 =>
 tif ((!r3)) (
 some (.inr false)) (
 g0w n f (l,(s5,(s6,((IntKind.wrap .i64 (s7+1)),())))))) (
 g0w n f (l,(s5,(s6,((IntKind.wrap .i64 (s7+1)),()))))))) (
 some (.inl ())):=by kernel_rfl
theorem m1r (n:Nat) (r:(Int×(Int×(List a0o)))) (room:Int):k1e (n+1) r room =
 tif ((decide (r.1=0))) (
 some (decide (r.2.1=0))) (
 tif ((decide ((((List.length r.2.2):Nat):Int)=room))) (
 tif ((decide ((0:Int)≤r.2.1))) (
 a0a (at? r.2.2 (0:Int)) fun r0 =>
 some (decide (r.2.1<r0.1))) (
 some false)) (
 some false)):=by kernel_rfl
theorem d1b (n:Nat) (l:(List a0c)) (i:Int):e0f (n+1) l i =
 a0a (h0u n l (fun y0=>m0x n y0.1 i)) fun r1 =>
 some r1:=by kernel_rfl
theorem v1y (n:Nat) (r:(Int×(Int×(List a0o)))):m1s (n+1) r =
 tif ((decide ((((List.length r.2.2):Nat):Int)=0))) (
 some ((0,(0,(0,false))),3)) (
 a0a (at? r.2.2 (IntKind.wrap .i64 ((((List.length r.2.2):Nat):Int)-1))) fun r0 =>
 some (r0,0)):=by kernel_rfl
theorem q1o (n:Nat) (c:d0n) (w:Int) (i:Int):x0t (n+1) c w i =
 tif ((decide (c.1=0))) (
 some false) (
 a0a (q0i n c) fun r0 =>
 tif ((!(decide (r0=0)))) (
 some false) (
 a0a (g0g n a0b (w,(i,((c.2.1.1,c.2.2.1.1),(0,()))))) fun r1 =>
 b0z (fun y2 =>
 some true) (fun z3 =>
 some z3) r1)):=by kernel_rfl
theorem m0p (n f:Nat) (w:Int) (i:Int) (s25:(Int×Int)) (s26:Int):g0g n (f+1) (w,i,s25,s26,()) =
 tif ((decide (s26<2))) (
 tif ((decide (s26=0))) (
 a0a (a2y n s25.1 w) fun r0 =>
 tif ((!(decide (r0.2=0)))) (
 some (.inr false)) (
 tif ((!(decide (r0.1=i)))) (
 some (.inr false)) (
 g0g n f (w,(i,(s25,((IntKind.wrap .i64 (s26+1)),()))))))) (
 tif ((decide (s26=1))) (
 a0a (a2y n s25.2 w) fun r1 =>
 tif ((!(decide (r1.2=0)))) (
 some (.inr false)) (
 tif ((!(decide (r1.1=i)))) (
 some (.inr false)) (
 g0g n f (w,(i,(s25,((IntKind.wrap .i64 (s26+1)),()))))))) (
 none))) (
 some (.inl ())):=by kernel_rfl
theorem t0c (n:Nat) (s:(List (List UInt8×List UInt8))) (f_:(((List UInt8×List UInt8)×Unit)→Option Bool)):o0d (n+1) s f_ =
 a0a (d0e n a0b (s,(f_,((((List.length s):Nat):Int),(0,()))))) fun r0 =>
 b0z (fun y1 =>
 some ((-1):Int)) (fun z2 =>
 some z2) r0:=by kernel_rfl
theorem i0n (n f:Nat) (s:(List (List UInt8×List UInt8))) (f_:(((List UInt8×List UInt8)×Unit)→Option Bool)) (s7:Int) (s8:Int):d0e n (f+1) (s,f_,s7,s8,()) =
 tif ((decide (s8<s7))) (
 a0a (at? s s8) fun r0 =>
 a0a (f_ (r0,())) fun r1 =>
 tif (r1) (
 some (.inr s8)) (
 d0e n f (s,(f_,(s7,((IntKind.wrap .i64 (s8+1)),())))))) (
 some (.inl ())):=by kernel_rfl
theorem d1e (n:Nat) (x:(List UInt8×List UInt8)) (p1:List UInt8):r0s (n+1) x p1 =
 some (x.1==p1):=by kernel_rfl
theorem p0m (n:Nat) (s:List UInt8) (prefix_:List UInt8):stringslite_HasPrefix (n+1) s prefix_ =
 tif ((decide ((((List.length prefix_):Nat):Int)≤(((List.length s):Nat):Int)))) (
 tif (((decide ((0:Int)≤(((List.length prefix_):Nat):Int)))&&(decide ((((List.length prefix_):Nat):Int)≤(((List.length s):Nat):Int))))) (
 some ((List.drop 0 (List.take (Int.toNat (((List.length prefix_):Nat):Int)) s))==prefix_)) (
 none)) (
 some false):=by kernel_rfl
theorem v0c (n:Nat) (s:(List Int)) (f_:((Int×Unit)→Option Bool)):p0q (n+1) s f_ =
 a0a (d0l n a0b (s,(f_,((((List.length s):Nat):Int),(0,()))))) fun r0 =>
 b0z (fun y1 =>
 some ((-1):Int)) (fun z2 =>
 some z2) r0:=by kernel_rfl
theorem i0w (n f:Nat) (s:(List Int)) (f_:((Int×Unit)→Option Bool)) (s7:Int) (s8:Int):d0l n (f+1) (s,f_,s7,s8,()) =
 tif ((decide (s8<s7))) (
 a0a (at? s s8) fun r0 =>
 a0a (f_ (r0,())) fun r1 =>
 tif (r1) (
 some (.inr s8)) (
 d0l n f (s,(f_,(s7,((IntKind.wrap .i64 (s8+1)),())))))) (
 some (.inl ())):=by kernel_rfl
theorem u1w (n:Nat) (l:(List a0c)):l1v (n+1) l =
 a0a (r0c n l) fun r0 =>
 a0a (j0a n r0 (fun y1=>s0v n y1.1)) fun r2 =>
 a0a (f0z n r2 (fun y3=>u0j n y3.1 y3.2.1)) fun r4 =>
 some r4:=by kernel_rfl
theorem y1a (n:Nat) (l:(List d0n)):p1l (n+1) l =
 a0a (n0w n a0b ((0,((0,(0,(0,false))),((0,(0,(0,false))),((0,0),(0,(0,0)))))),((0,((0,(0,(0,false))),((0,(0,(0,false))),((0,0),(0,(0,0)))))),(l,((((List.length l):Nat):Int),(0,())))))) fun r0 =>
 b0z (fun y1 =>
 some (y1.2.1,0)) (fun z2 =>
 some z2) r0:=by kernel_rfl
theorem w0a (n f:Nat) (s2:d0n) (c:d0n) (s9:(List d0n)) (s10:Int) (s11:Int):n0w n (f+1) (s2,c,s9,s10,s11,()) =
 tif ((decide (s11<s10))) (
 a0a (at? s9 s11) fun r0 =>
 a0a (i0t n c r0) fun r1 =>
 tif ((!(decide (r1.2=0)))) (
 some (.inr ((0,((0,(0,(0,false))),((0,(0,(0,false))),((0,0),(0,(0,0)))))),r1.2))) (
 n0w n f (s2,(r1.1,(s9,(s10,((IntKind.wrap .i64 (s11+1)),()))))))) (
 some (.inl (s2,(c,())))):=by kernel_rfl
theorem p1k (n:Nat) (c:d0n):q0i (n+1) c =
 a0a (u0c n c) fun r0 =>
 tif (r0) (
 some (0:Int)) (
 a0a (b1i n c) fun r1 =>
 tif ((!r1)) (
 some (2:Int)) (
 a0a (w0d n (18446744073709551615:Int)) fun r2 =>
 a0a (u0h n r2 (IntKind.wrap .u64 (IntKind.wrap .i64 (c.1-1)))) fun r3 =>
 tif ((!(decide (r3.2=0)))) (
 some (2:Int)) (
 a0a (m0m n r3.1 c.2.2.2.1) fun r4 =>
 tif (r4) (
 some (2:Int)) (
 a0a (g1v n c.2.2.2.2.2.1 (IntKind.wrap .i64 (c.1-1))) fun r5 =>
 tif ((!r5)) (
 some (2:Int)) (
 a0a (g1v n c.2.2.2.2.1 (IntKind.wrap .i64 ((IntKind.wrap .i64 (c.1-1))-c.2.2.2.2.2.1))) fun r6 =>
 tif ((!r6)) (
 some (2:Int)) (
 a0a (g1v n c.2.2.2.2.2.2 (IntKind.wrap .i64 (c.2.2.1.1-c.2.1.1))) fun r7 =>
 tif ((!r7)) (
 some (2:Int)) (
 some (0:Int)))))))):=by kernel_rfl
theorem t1w (n:Nat) (c:d0n):u0c (n+1) c =
 some ((decide (c.1=0))&&((decide (c.2.1.1=0))&&((decide (c.2.1.2.1=0))&&((decide (c.2.1.2.2.1=0))&&((c.2.1.2.2.2==false)&&((decide (c.2.2.1.1=0))&&((decide (c.2.2.1.2.1=0))&&((decide (c.2.2.1.2.2.1=0))&&((c.2.2.1.2.2.2==false)&&((decide (c.2.2.2.1.1=0))&&((decide (c.2.2.2.1.2=0))&&((decide (c.2.2.2.2.1=0))&&((decide (c.2.2.2.2.2.1=0))&&(decide (c.2.2.2.2.2.2=0))))))))))))))):=by kernel_rfl
theorem t1x (n:Nat) (a:d0n) (b:d0n):t1y (n+1) a b =
 a0a (s0a n a.2.2.1 b.2.1) fun r0 =>
 tif ((!(decide (r0.2=0)))) (
 some ((0,((0,(0,(0,false))),((0,(0,(0,false))),((0,0),(0,(0,0)))))),r0.2)) (
 a0a (l1i n (a.2.2.2.1::(r0.1.2.2.2.1::(b.2.2.2.1::[])))) fun r1 =>
 some (((IntKind.wrap .i64 (a.1+b.1)),(a.2.1,(b.2.2.1,(r1.1,((IntKind.wrap .i64 (r0.1.2.2.2.2.1+(IntKind.wrap .i64 (a.2.2.2.2.1+b.2.2.2.2.1)))),((IntKind.wrap .i64 (r0.1.2.2.2.2.2.1+(IntKind.wrap .i64 (a.2.2.2.2.2.1+b.2.2.2.2.2.1)))),(IntKind.wrap .i64 (r0.1.2.2.2.2.2.2+(IntKind.wrap .i64 (a.2.2.2.2.2.2+b.2.2.2.2.2.2)))))))))),r1.2)):=by kernel_rfl
theorem d1c (n:Nat) (a:(Int×Int)):g0x (n+1) a =
 tif ((decide (a.2=0))) (
 a0a (l0d n a.1) fun r0 =>
 some (IntKind.wrap .i64 ((64:Int)+r0))) (
 a0a (l0d n a.2) fun r1 =>
 some r1):=by kernel_rfl
theorem m1w (n:Nat) (a:(Int×Int)) (by_:Int):u0r (n+1) a by_ =
 tif ((decide ((64:Int)≤by_))) (
 tif ((decide ((IntKind.wrap .i64 (by_-64))<0))) (
 none) (
 some (0,(shrI .u64 a.1 (IntKind.wrap .i64 (by_-64)))))) (
 tif ((decide (by_<0))) (
 none) (
 tif ((decide (by_<0))) (
 none) (
 tif ((decide ((IntKind.wrap .i64 ((64:Int)-by_))<0))) (
 none) (
 some ((shrI .u64 a.1 by_),(orI .u64 (shrI .u64 a.2 by_) (shlI .u64 a.1 (IntKind.wrap .i64 ((64:Int)-by_))))))))):=by kernel_rfl
theorem m1v (n:Nat) (a:(Int×Int)) (b:(Int×Int)):j0w (n+1) a b =
 a0a (l1j n a b) fun r0 =>
 some r0.1:=by kernel_rfl
theorem w1a (n:Nat) (a:(Int×Int)) (by_:Int):y0n (n+1) a by_ =
 tif ((decide ((64:Int)≤by_))) (
 tif ((decide ((IntKind.wrap .i64 (by_-64))<0))) (
 none) (
 some ((shlI .u64 a.2 (IntKind.wrap .i64 (by_-64))),0))) (
 tif ((decide (by_<0))) (
 none) (
 tif ((decide ((IntKind.wrap .i64 ((64:Int)-by_))<0))) (
 none) (
 tif ((decide (by_<0))) (
 none) (
 some ((orI .u64 (shlI .u64 a.1 by_) (shrI .u64 a.2 (IntKind.wrap .i64 ((64:Int)-by_)))),(shlI .u64 a.2 by_)))))):=by kernel_rfl
theorem m1u (n:Nat) (a:(Int×Int)):u0q (n+1) a =
 tif ((!(decide (a.1=0)))) (
 a0a (d0u n a.1) fun r0 =>
 some (IntKind.wrap .i64 ((64:Int)+r0))) (
 a0a (d0u n a.2) fun r1 =>
 some r1):=by kernel_rfl
theorem l1t (n:Nat) (l:(List a0c)) (w:Int):p0l (n+1) l w =
 tif ((decide ((((List.length l):Nat):Int)=0))) (
 some (2:Int)) (
 tif ((decide ((4096:Int)<(((List.length l):Nat):Int)))) (
 some (2:Int)) (
 tif ((decide (w<1))) (
 some (2:Int)) (
 tif ((decide ((1099511627776:Int)<w))) (
 some (2:Int)) (
 a0a (g0r n a0b (l,(w,(l,((((List.length l):Nat):Int),(0,())))))) fun r0 =>
 b0z (fun y1 =>
 some (0:Int)) (fun z2 =>
 some z2) r0)))):=by kernel_rfl
theorem s0g (n f:Nat) (l:(List a0c)) (w:Int) (s23:(List a0c)) (s24:Int) (s25:Int):g0r n (f+1) (l,w,s23,s24,s25,()) =
 tif ((decide (s25<s24))) (
 a0a (at? s23 s25) fun r0 =>
 a0a (s0v n r0) fun r1 =>
 tif ((!r1)) (
 a0a (u1o n r0.1 (((List.length l):Nat):Int)) fun r2 =>
 tif ((!(decide (r2=s25)))) (
 some (.inr (2:Int))) (
 a0a (x0t n r0.2 w r0.1) fun r3 =>
 tif ((!r3)) (
 some (.inr (2:Int))) (
 g0r n f (l,(w,(s23,(s24,((IntKind.wrap .i64 (s25+1)),())))))))) (
 g0r n f (l,(w,(s23,(s24,((IntKind.wrap .i64 (s25+1)),()))))))) (
 some (.inl ())):=by kernel_rfl
theorem r0b (n:Nat) (s:(List a0c)) (f_:((a0c×Unit)→Option Bool)):h0u (n+1) s f_ =
 a0a (j0s n s f_) fun r0 =>
 some (decide ((0:Int)≤r0)):=by kernel_rfl
theorem y0j (n:Nat) (s:a0c) (p1:Int):m0x (n+1) s p1 =
 tif ((decide ((0:Int)<s.2.1))) (
 some (decide (p1≤s.1))) (
 some false):=by kernel_rfl
theorem i1z (n:Nat) (l:(List a0o)):n0r (n+1) l =
 a0a (k0k n a0b (l,((((List.length l):Nat):Int),(0,())))) fun r0 =>
 b0z (fun y1 =>
 some true) (fun z2 =>
 some z2) r0:=by kernel_rfl
theorem q0d (n f:Nat) (s5:(List a0o)) (s6:Int) (s7:Int):k0k n (f+1) (s5,s6,s7,()) =
 tif ((decide (s7<s6))) (
 a0a (at? s5 s7) fun r0 =>
 a0a (n0s n r0) fun r1 =>
 tif ((!(decide (r1=0)))) (
 some (.inr false)) (
 k0k n f (s5,(s6,((IntKind.wrap .i64 (s7+1)),()))))) (
 some (.inl ())):=by kernel_rfl
theorem t0d (n:Nat) (s:(List a0c)) (del:((a0c×Unit)→Option Bool)):j0a (n+1) s del =
 a0a (j0s n s del) fun r0 =>
 tif ((decide (r0=((-1):Int)))) (
 some s) (
 a0a (d0g n a0b (s,(del,(r0,((IntKind.wrap .i64 (r0+1)),()))))) fun r1 =>
 b0z (fun y2 =>
 tif ((decide ((0:Int)≤y2.2.1))) (
 tif ((decide ((Int.toNat y2.2.1)≤(List.length y2.1)))) (
 tif ((decide (((Int.toNat y2.2.1)+((List.length y2.1)-(Int.toNat y2.2.1)))≤(List.length y2.1)))) (
 tif (((decide ((0:Int)≤y2.2.1))&&(decide (y2.2.1≤(((List.length (Go.Flat.putRow y2.1 (Int.toNat y2.2.1) (List.replicate ((List.length y2.1)-(Int.toNat y2.2.1)) (0,(0,((0,(0,(0,false))),((0,(0,(0,false))),((0,0),(0,(0,0)))))))))):Nat):Int))))) (
 some (List.take ((Int.toNat y2.2.1)-0) (Go.Flat.putRow y2.1 (Int.toNat y2.2.1) (List.replicate ((List.length y2.1)-(Int.toNat y2.2.1)) (0,(0,((0,(0,(0,false))),((0,(0,(0,false))),((0,0),(0,(0,0))))))))))) (
 none)) (
 none)) (
 none)) (
 none)) (fun z3 =>
 some z3) r1):=by kernel_rfl
theorem i0o (n f:Nat) (s:(List a0c)) (del:((a0c×Unit)→Option Bool)) (i:Int) (j:Int):d0g n (f+1) (s,del,i,j,()) =
 tif ((decide (j<(((List.length s):Nat):Int)))) (
 a0a (at? s j) fun r0 =>
 a0a ((s)[(Int.toNat j)]?) fun r1 =>
 a0a (del (r1,())) fun r2 =>
 tif ((!r2)) (
 a0a (at? s i) fun r3 =>
 a0a ((s)[(Int.toNat i)]?) fun r4 =>
 d0g n f ((List.set s (Int.toNat i) r1),(del,((IntKind.wrap .i64 (i+1)),((IntKind.wrap .i64 (j+1)),()))))) (
 d0g n f (s,(del,(i,((IntKind.wrap .i64 (j+1)),())))))) (
 some (.inl (s,(i,())))):=by kernel_rfl
theorem q1j (n:Nat) (s:a0c):s0v (n+1) s =
 some ((decide (s.1=0))&&((decide (s.2.1=0))&&((decide (s.2.2.1.1=0))&&((decide (s.2.2.1.2.1=0))&&((decide (s.2.2.1.2.2.1=0))&&((s.2.2.1.2.2.2==false)&&((decide (s.2.2.2.1.1=0))&&((decide (s.2.2.2.1.2.1=0))&&((decide (s.2.2.2.1.2.2.1=0))&&((s.2.2.2.1.2.2.2==false)&&((decide (s.2.2.2.2.1.1=0))&&((decide (s.2.2.2.2.1.2=0))&&((decide (s.2.2.2.2.2.1=0))&&((decide (s.2.2.2.2.2.2.1=0))&&(decide (s.2.2.2.2.2.2.2=0)))))))))))))))):=by kernel_rfl
theorem o0x (n:Nat) (x:(List a0c)) (cmp:((a0c×(a0c×Unit))→Option Int)):f0z (n+1) x cmp =
 a0a (g2c n x (((List.length x):Nat):Int) cmp) fun r0 =>
 some r0:=by kernel_rfl
theorem l1u (n:Nat) (a:a0c) (b:a0c):u0j (n+1) a b =
 a0a (k0c n a.1 b.1) fun r0 =>
 some r0:=by kernel_rfl
theorem v0h (n:Nat) (x:Int) (y:Int):k0c (n+1) x y =
 a0a (n0v n x) fun r0 =>
 a0a (n0v n y) fun r1 =>
 tif (r0) (
 tif (r1) (
 some (0:Int)) (
 some ((-1):Int))) (
 tif (r1) (
 some (1:Int)) (
 tif ((decide (x<y))) (
 some ((-1):Int)) (
 tif ((decide (y<x))) (
 some (1:Int)) (
 some (0:Int))))):=by kernel_rfl
theorem p1i (n:Nat) (c:d0n):b1i (n+1) c =
 tif ((decide (c.1=1))) (
 tif (((decide (c.2.1.1=c.2.2.1.1))&&((decide (c.2.1.2.1=c.2.2.1.2.1))&&((decide (c.2.1.2.2.1=c.2.2.1.2.2.1))&&(c.2.1.2.2.2==c.2.2.1.2.2.2))))) (
 a0a (n0s n c.2.1) fun r0 =>
 some (decide (r0=0))) (
 some false)) (
 tif ((decide ((1:Int)<c.1))) (
 a0a (o0o n c.2.1 c.2.2.1) fun r1 =>
 tif (r1) (
 some (decide ((IntKind.wrap .i64 (c.1-1))≤(IntKind.wrap .i64 (c.2.2.1.1-c.2.1.1))))) (
 some false)) (
 some false)):=by kernel_rfl
theorem c1t (n:Nat) (x:Int):l0d (n+1) x =
 tif ((decide (x=0))) (
 some (64:Int)) (
 a0a (at? ((0:Int)::((1:Int)::((56:Int)::((2:Int)::((57:Int)::((49:Int)::((28:Int)::((3:Int)::((61:Int)::((58:Int)::((42:Int)::((50:Int)::((38:Int)::((29:Int)::((17:Int)::((4:Int)::((62:Int)::((47:Int)::((59:Int)::((36:Int)::((45:Int)::((43:Int)::((51:Int)::((22:Int)::((53:Int)::((39:Int)::((33:Int)::((30:Int)::((24:Int)::((18:Int)::((12:Int)::((5:Int)::((63:Int)::((55:Int)::((48:Int)::((27:Int)::((60:Int)::((41:Int)::((37:Int)::((16:Int)::((46:Int)::((35:Int)::((44:Int)::((21:Int)::((52:Int)::((32:Int)::((23:Int)::((11:Int)::((54:Int)::((26:Int)::((40:Int)::((15:Int)::((34:Int)::((20:Int)::((31:Int)::((10:Int)::((25:Int)::((14:Int)::((19:Int)::((9:Int)::((13:Int)::((8:Int)::((7:Int)::((6:Int)::[])))))))))))))))))))))))))))))))))))))))))))))))))))))))))))))))) (shrI .u64 (IntKind.wrap .u64 ((285870213051353865:Int)*(andI .u64 x (IntKind.wrap .u64 ((0:Int)-x))))) (58:Int))) fun r0 =>
 some (IntKind.wrap .i64 r0)):=by kernel_rfl
theorem y0i (n:Nat) (x0:List (List UInt8)) (x1:Int):m0w (n+1) x0 x1=i0q x0 x1:=by
    have h:m0w (n+1) x0 x1=Option.bind (i0q x0 x1) (fun z=>some z):=by kernel_rfl
    rw[h];cases i0q x0 x1<;>rfl
theorem a1f (n:Nat) (x0:List (a0o)) (x1:Int):p0b (n+1) x0 x1=i0q x0 x1:=by
    have h:p0b (n+1) x0 x1=Option.bind (i0q x0 x1) (fun z=>some z):=by kernel_rfl
    rw[h];cases i0q x0 x1<;>rfl
theorem k0q (n:Nat) (x0:List UInt8) (x1:List UInt8):a0m (n+1) x0 x1=g0l x0 x1:=by
    have h:a0m (n+1) x0 x1=Option.bind (g0l x0 x1) (fun z=>some z):=by kernel_rfl
    rw[h];cases g0l x0 x1<;>rfl
theorem c0h (n:Nat) (x0:List UInt8):b0o (n+1) x0=some (x0,x0):=by kernel_rfl
theorem d1a (n:Nat) (x0:List (a0c)) (x1:Int):r0d (n+1) x0 x1=i0q x0 x1:=by
    have h:r0d (n+1) x0 x1=Option.bind (i0q x0 x1) (fun z=>some z):=by kernel_rfl
    rw[h];cases i0q x0 x1<;>rfl
theorem i0v (n:Nat) (x0:List UInt8) (x1:Int):b0v (n+1) x0 x1=s1z x0 x1:=by
    have h:b0v (n+1) x0 x1=Option.bind (s1z x0 x1) (fun z=>some z):=by kernel_rfl
    rw[h];cases s1z x0 x1<;>rfl
theorem d0y (n:Nat) (x0:List UInt8):f0i (n+1) x0=some ((x0.length:Int),x0):=by kernel_rfl
end Go.Proofs.YtagnkfbpgkckiaaGreatDoor
