/- Trees, printed by program. -/
import Derived.Test.YtagnkfbpgkckiaaGreatDoorTr0
import Derived.KernelRfl
set_option linter.unusedVariables false
namespace Go.Proofs.YtagnkfbpgkckiaaGreatDoor
open Go.Flat
theorem m0z (n:Nat) (x:Int):k0z (n+1) x =
 some (!(decide (x=x))):=by kernel_rfl
theorem m1q (n:Nat) (s:List UInt8):a1a (n+1) s =
 tif ((s==[])) (
 some false) (
 tif ((decide ((64:Int)<(((List.length s):Nat):Int)))) (
 some false) (
 a0b (at? s (0:Int)) fun r0 =>
 a0b (q0y n (((UInt8.toNat r0):Nat):Int)) fun r1 =>
 tif (r1) (
 some false) (
 a0b (h0s n (List.map (fun y2=>(((UInt8.toNat y2):Nat):Int)) s) (fun y3=>s0z n y3.1)) fun r4 =>
 some (!r4)))):=by kernel_rfl
theorem w1b (n:Nat) (s:b0a) (k:Int):y0p (n+1) s k =
 a0b (s1f n s k) fun r0 =>
 tif ((!(decide (r0=0)))) (
 some (0,(0,r0))) (
 tif ((decide (k=0))) (
 tif ((decide (k=0))) (
 a0b (f0t n s.2.1 s.1.2.1.1 s.1.2.2.1.1) fun r1 =>
 tif ((decide (s.1.2.1.1=0))) (
 none) (
 some (r1.1,((IntKind.wrap .i64 (Int.tdiv s.2.1 s.1.2.1.1)),r1.2)))) (
 tif ((decide (k=1))) (
 a0b (f0t n s.2.1 s.1.2.1.1 s.1.2.2.1.2.1) fun r2 =>
 tif ((decide (s.1.2.1.1=0))) (
 none) (
 some (r2.1,((IntKind.wrap .i64 (Int.tdiv s.2.1 s.1.2.1.1)),r2.2)))) (
 tif ((decide (k=2))) (
 a0b (f0t n s.2.1 s.1.2.1.1 s.1.2.2.1.2.2) fun r3 =>
 tif ((decide (s.1.2.1.1=0))) (
 none) (
 some (r3.1,((IntKind.wrap .i64 (Int.tdiv s.2.1 s.1.2.1.1)),r3.2)))) (
 none)))) (
 tif ((decide (k=1))) (
 tif ((decide (k=0))) (
 a0b (f0t n s.2.1 s.1.2.1.2.1 s.1.2.2.1.1) fun r4 =>
 tif ((decide (s.1.2.1.2.1=0))) (
 none) (
 some (r4.1,((IntKind.wrap .i64 (Int.tdiv s.2.1 s.1.2.1.2.1)),r4.2)))) (
 tif ((decide (k=1))) (
 a0b (f0t n s.2.1 s.1.2.1.2.1 s.1.2.2.1.2.1) fun r5 =>
 tif ((decide (s.1.2.1.2.1=0))) (
 none) (
 some (r5.1,((IntKind.wrap .i64 (Int.tdiv s.2.1 s.1.2.1.2.1)),r5.2)))) (
 tif ((decide (k=2))) (
 a0b (f0t n s.2.1 s.1.2.1.2.1 s.1.2.2.1.2.2) fun r6 =>
 tif ((decide (s.1.2.1.2.1=0))) (
 none) (
 some (r6.1,((IntKind.wrap .i64 (Int.tdiv s.2.1 s.1.2.1.2.1)),r6.2)))) (
 none)))) (
 tif ((decide (k=2))) (
 tif ((decide (k=0))) (
 a0b (f0t n s.2.1 s.1.2.1.2.2 s.1.2.2.1.1) fun r7 =>
 tif ((decide (s.1.2.1.2.2=0))) (
 none) (
 some (r7.1,((IntKind.wrap .i64 (Int.tdiv s.2.1 s.1.2.1.2.2)),r7.2)))) (
 tif ((decide (k=1))) (
 a0b (f0t n s.2.1 s.1.2.1.2.2 s.1.2.2.1.2.1) fun r8 =>
 tif ((decide (s.1.2.1.2.2=0))) (
 none) (
 some (r8.1,((IntKind.wrap .i64 (Int.tdiv s.2.1 s.1.2.1.2.2)),r8.2)))) (
 tif ((decide (k=2))) (
 a0b (f0t n s.2.1 s.1.2.1.2.2 s.1.2.2.1.2.2) fun r9 =>
 tif ((decide (s.1.2.1.2.2=0))) (
 none) (
 some (r9.1,((IntKind.wrap .i64 (Int.tdiv s.2.1 s.1.2.1.2.2)),r9.2)))) (
 none)))) (
 none)))):=by kernel_rfl
theorem k1u (n:Nat) (i:Int) (p1:b0a) (p2:(List (List UInt8×List UInt8))) (p3:b0a):g0t (n+1) i p1 p2 p3 =
 a0b (at? p1.2.2.2 i) fun r0 =>
 a0b (l0u n r0.1 p2) fun r1 =>
 tif (r1) (
 a0b (f0w n p3 i) fun r2 =>
 some r2) (
 some false):=by kernel_rfl
theorem c1z (n:Nat) (w:Int):k1d (n+1) w =
 a0b (p0w n w (1:Int) (1099511627776:Int)) fun r0 =>
 some r0:=by kernel_rfl
theorem k1y (n:Nat) (s:c0n) (i:Int) (j:Int):q0d (n+1) s (0:Int) i j =
 tif ((decide (s.2.2.1=((-1):Int)))) (
 some ((0,((0,(0,(0,false))),((0,(0,(0,false))),((0,0),(0,(0,0)))))),0)) (
 tif ((decide (s.1.2.1.1=0))) (
 none) (
 a0b (m0e n s.2.2.2.2.1.1 i j) fun r0 =>
 tif ((!(decide (r0.2=0)))) (
 some r0) (
 tif ((decide ((IntKind.wrap .i64 (Int.tdiv s.2.2.1 s.1.2.1.1))<i))) (
 some r0) (
 tif ((decide (j≤(IntKind.wrap .i64 (Int.tdiv s.2.2.1 s.1.2.1.1))))) (
 some r0) (
 a0b (m0h n s (0:Int)) fun r1 =>
 tif ((!(decide (r1.2=0)))) (
 some ((0,((0,(0,(0,false))),((0,(0,(0,false))),((0,0),(0,(0,0)))))),r1.2)) (
 a0b (i0l n r0.1 r1.1) fun r2 =>
 some r2)))))):=by kernel_rfl
theorem k1x (n:Nat) (s:c0n) (i:Int) (j:Int):q0d (n+1) s (1:Int) i j =
 tif ((decide (s.2.2.1=((-1):Int)))) (
 some ((0,((0,(0,(0,false))),((0,(0,(0,false))),((0,0),(0,(0,0)))))),0)) (
 tif ((decide (s.1.2.1.2.1=0))) (
 none) (
 a0b (m0e n s.2.2.2.2.1.2.1 i j) fun r0 =>
 tif ((!(decide (r0.2=0)))) (
 some r0) (
 tif ((decide ((IntKind.wrap .i64 (Int.tdiv s.2.2.1 s.1.2.1.2.1))<i))) (
 some r0) (
 tif ((decide (j≤(IntKind.wrap .i64 (Int.tdiv s.2.2.1 s.1.2.1.2.1))))) (
 some r0) (
 a0b (m0h n s (1:Int)) fun r1 =>
 tif ((!(decide (r1.2=0)))) (
 some ((0,((0,(0,(0,false))),((0,(0,(0,false))),((0,0),(0,(0,0)))))),r1.2)) (
 a0b (i0l n r0.1 r1.1) fun r2 =>
 some r2)))))):=by kernel_rfl
theorem k1w (n:Nat) (s:c0n) (i:Int) (j:Int):q0d (n+1) s (2:Int) i j =
 tif ((decide (s.2.2.1=((-1):Int)))) (
 some ((0,((0,(0,(0,false))),((0,(0,(0,false))),((0,0),(0,(0,0)))))),0)) (
 tif ((decide (s.1.2.1.2.2=0))) (
 none) (
 a0b (m0e n s.2.2.2.2.1.2.2 i j) fun r0 =>
 tif ((!(decide (r0.2=0)))) (
 some r0) (
 tif ((decide ((IntKind.wrap .i64 (Int.tdiv s.2.2.1 s.1.2.1.2.2))<i))) (
 some r0) (
 tif ((decide (j≤(IntKind.wrap .i64 (Int.tdiv s.2.2.1 s.1.2.1.2.2))))) (
 some r0) (
 a0b (m0h n s (2:Int)) fun r1 =>
 tif ((!(decide (r1.2=0)))) (
 some ((0,((0,(0,(0,false))),((0,(0,(0,false))),((0,0),(0,(0,0)))))),r1.2)) (
 a0b (i0l n r0.1 r1.1) fun r2 =>
 some r2)))))):=by kernel_rfl
theorem k1a (n:Nat) (a:(Int×Int)) (n_:Int):t0n (n+1) a n_ =
 a0b (g0l n a.2 n_) fun r0 =>
 a0b (g0l n a.1 n_) fun r1 =>
 tif (((decide ((0:Int)≤r1.2))&&((decide ((0:Int)≤r0.1))&&true))) (
 a0b (r0x n ((((r1.2+r0.1)+0) % (18446744073709551616:Int)),r0.2) (orI .u64 r1.1 (((r1.2+r0.1)+0) / (18446744073709551616:Int)))) fun r2 =>
 some r2) (
 none):=by kernel_rfl
theorem d1x (n:Nat) (num:(Int×Int)) (den:(Int×Int)):s0r (n+1) num den =
 a0b (l0s n den) fun r0 =>
 tif (r0) (
 some (((0,0),(0,0)),1)) (
 a0b (d1y n num den) fun r1 =>
 a0b (q0p n num r1) fun r2 =>
 a0b (q0p n den r1) fun r3 =>
 some ((r2,r3),0)):=by kernel_rfl
theorem y1v (n:Nat) (n_:Int):v0g (n+1) n_ =
 some (0,n_):=by kernel_rfl
theorem t0i (n:Nat) (w:(List Int)) (width:Int) (n_:Int):a0p (n+1) w width n_ =
 tif ((decide (width<1))) (
 some w) (
 tif ((decide ((8:Int)<width))) (
 some w) (
 a0b (e0u n a0c (w,(n_,((IntKind.wrap .i64 ((8:Int)*(IntKind.wrap .i64 (width-1)))),())))) fun r0 =>
 c0d (fun y1 =>
 some y1.1) (fun z2 =>
 some z2) r0)):=by kernel_rfl
theorem i0k (n f:Nat) (w:(List Int)) (n_:Int) (up:Int):e0u n (f+1) (w,n_,up,()) =
 tif ((decide ((0:Int)≤up))) (
 tif ((decide (up<0))) (
 none) (
 tif ((decide ((((List.length w)+1)*1)≤140737488355328))) (
 e0u n f ((w++((IntKind.wrap .u8 (shrI .u64 n_ up))::[])),(n_,((IntKind.wrap .i64 (up-8)),())))) (
 none))) (
 some (.inl (w,()))):=by kernel_rfl
theorem r0q (n:Nat) (x:Int) (y:Int):q0w (n+1) x y =
 a0b (g0l n x y) fun r0 =>
 some r0:=by kernel_rfl
theorem g1w (n:Nat) (l:(List (List UInt8×List UInt8))):v0x (n+1) l =
 a0b (j0t n l) fun r0 =>
 tif ((!(decide (r0=0)))) (
 some ([],r0)) (
 a0b (h0a n [] (IntKind.wrap .u64 (((List.length l):Nat):Int))) fun r1 =>
 a0b (k0d n a0c (r1,(l,((((List.length l):Nat):Int),(0,()))))) fun r2 =>
 c0d (fun y3 =>
 a0b (c0t n y3.1) fun r4 =>
 some (r4.1,0)) (fun z5 =>
 some z5) r2):=by kernel_rfl
theorem p0j (n f:Nat) (w:(List Int)) (s17:(List (List UInt8×List UInt8))) (s18:Int) (s19:Int):k0d n (f+1) (w,s17,s18,s19,()) =
 tif ((decide (s19<s18))) (
 a0b (at? s17 s19) fun r0 =>
 a0b (h0b n w r0.1) fun r1 =>
 a0b (h0b n r1 r0.2) fun r2 =>
 k0d n f (r2,(s17,(s18,((IntKind.wrap .i64 (s19+1)),()))))) (
 some (.inl (w,()))):=by kernel_rfl
theorem g1x (n:Nat) (w:(List Int)) (e:a0v):m0r (n+1) w e =
 a0b (m0s n w (e.1::((IntKind.wrap .i64 e.2.1)::(e.2.2.1::[])))) fun r0 =>
 tif (e.2.2.2) (
 a0b (a0p n r0 (1:Int) (1:Int)) fun r1 =>
 some r1) (
 a0b (a0p n r0 (1:Int) (0:Int)) fun r2 =>
 some r2):=by kernel_rfl
theorem n1u (n:Nat) (n_:Int) (by_:Int):l0x (n+1) n_ by_ =
 tif ((decide (by_=0))) (
 none) (
 some (IntKind.wrap .i64 (Int.tdiv (IntKind.wrap .i64 ((IntKind.wrap .i64 (n_+by_))-1)) by_))):=by kernel_rfl
theorem z0h (n:Nat) (s1:(List a0v)) (s2:(List a0v)):o0l (n+1) s1 s2 =
 tif ((!(decide ((((List.length s1):Nat):Int)=(((List.length s2):Nat):Int))))) (
 some false) (
 a0b (g0v n a0c (s1,(s2,((((List.length s1):Nat):Int),(0,()))))) fun r0 =>
 c0d (fun y1 =>
 some true) (fun z2 =>
 some z2) r0):=by kernel_rfl
theorem l0j (n f:Nat) (s1:(List a0v)) (s2:(List a0v)) (s12:Int) (s13:Int):g0v n (f+1) (s1,s2,s12,s13,()) =
 tif ((decide (s13<s12))) (
 a0b (at? s1 s13) fun r0 =>
 a0b (at? s2 s13) fun r1 =>
 tif ((!((decide (r0.1=r1.1))&&((decide (r0.2.1=r1.2.1))&&((decide (r0.2.2.1=r1.2.2.1))&&(r0.2.2.2==r1.2.2.2)))))) (
 some (.inr false)) (
 g0v n f (s1,(s2,(s12,((IntKind.wrap .i64 (s13+1)),())))))) (
 some (.inl ())):=by kernel_rfl
theorem g1h (n:Nat) (c:d0a) (last:Int) (now:Int):v0m (n+1) c last now =
 a0b (f0z n c) fun r0 =>
 tif ((decide (r0=0))) (
 a0b (d1a n last now c.2.1.1 c.2.2.1.1) fun r1 =>
 tif (r1) (
 a0b (d1a n last now c.2.1.2.1 c.2.2.1.2.1) fun r2 =>
 tif (r2) (
 a0b (d1a n last now c.2.1.2.2 c.2.2.1.2.2) fun r3 =>
 tif (r3) (
 some r3) (
 some r3)) (
 some r2)) (
 some r1)) (
 some (decide (r0=0))):=by kernel_rfl
theorem wi_Of_eq (n:Nat) (t:Int) (w:Int):y1y (n+1) t w =
 a0b (p0w n t (0:Int) (35184372088831:Int)) fun r0 =>
 tif ((!r0)) (
 some (0,1)) (
 a0b (k1d n w) fun r1 =>
 tif ((!r1)) (
 some (0,1)) (
 tif ((decide (w=0))) (
 none) (
 some ((IntKind.wrap .i64 (Int.tdiv t w)),0)))):=by kernel_rfl
theorem o1m (n:Nat) (n_:Int) (low:Int) (high:Int):o1n (n+1) n_ low high =
 tif ((decide (low≤n_))) (
 some (decide (n_≤high))) (
 some false):=by kernel_rfl
theorem b1w (n:Nat) (s:(List a0f)):q0j (n+1) s =
 tif ((decide ((List.length s)=0))) (
 both (
 some []) (
 tif ((decide (((0+(List.length s))*120)≤140737488355328))) (
 some ([]++s)) (
 none))) (
 tif ((decide (((0+(List.length s))*120)≤140737488355328))) (
 some ([]++s)) (
 none)):=by kernel_rfl
theorem m1z (n:Nat) (c:d0a) (s:((List a0f)×((List a0f)×(List a0f)))):a1c (n+1) c s =
 a0b (f1b n c s) fun r0 =>
 oelim (r0.1) (
 some r0.2) fun r1 =>
 some r0.2:=by kernel_rfl
theorem p1t (n:Nat) (r:(Int×(Int×(List a0v)))) (room:Int):d1w (n+1) r room =
 tif ((decide (room<1))) (
 some (2:Int)) (
 tif ((decide ((4096:Int)<room))) (
 some (2:Int)) (
 tif ((decide (room<(((List.length r.2.2):Nat):Int)))) (
 some (2:Int)) (
 tif ((decide (r.1<0))) (
 some (2:Int)) (
 tif ((decide ((70368744177664:Int)<r.1))) (
 some (2:Int)) (
 a0b (z0l n r.2.2) fun r0 =>
 tif ((!r0)) (
 some (2:Int)) (
 a0b (i1z n r room) fun r1 =>
 tif ((!r1)) (
 some (2:Int)) (
 some (0:Int)))))))):=by kernel_rfl
theorem p1n (n:Nat) (s:c0n):d1k (n+1) s =
 tif ((decide ((((List.length s.2.2.2.1.2.2):Nat):Int)=0))) (
 tif (((decide (s.2.2.2.2.2.1=0))&&((decide (s.2.2.2.2.2.2.1=0))&&((decide (s.2.2.2.2.2.2.2.1.1=0))&&((decide (s.2.2.2.2.2.2.2.1.2.1=0))&&((decide (s.2.2.2.2.2.2.2.1.2.2.1=0))&&((s.2.2.2.2.2.2.2.1.2.2.2==false)&&((decide (s.2.2.2.2.2.2.2.2.1.1=0))&&((decide (s.2.2.2.2.2.2.2.2.1.2.1=0))&&((decide (s.2.2.2.2.2.2.2.2.1.2.2.1=0))&&((s.2.2.2.2.2.2.2.2.1.2.2.2==false)&&((decide (s.2.2.2.2.2.2.2.2.2.1.1=0))&&((decide (s.2.2.2.2.2.2.2.2.2.1.2=0))&&((decide (s.2.2.2.2.2.2.2.2.2.2.1=0))&&((decide (s.2.2.2.2.2.2.2.2.2.2.2.1=0))&&(decide (s.2.2.2.2.2.2.2.2.2.2.2.2=0))))))))))))))))) (
 a0b (e0q n s.2.2.2.2.1.1 (0:Int)) fun r0 =>
 tif ((!r0)) (
 a0b (e0q n s.2.2.2.2.1.2.1 (0:Int)) fun r1 =>
 tif ((!r1)) (
 a0b (e0q n s.2.2.2.2.1.2.2 (0:Int)) fun r2 =>
 some (!r2)) (
 some false)) (
 some false)) (
 some false)) (
 some false):=by kernel_rfl
theorem t1r (n:Nat) (s:c0n):c1l (n+1) s =
 a0b (l1l n s.2.2.2.1) fun r0 =>
 tif ((decide (r0.2=0))) (
 tif ((decide (r0.1.1=s.2.2.1))) (
 tif ((decide (s.2.2.2.2.2.2.2.2.1.1=s.2.2.1))) (
 a0b (w0r n s.2.2.2.2.2.2 s.1.2.1.1 s.2.2.2.2.2.1) fun r1 =>
 tif (r1) (
 tif ((decide (s.1.2.1.1=0))) (
 none) (
 a0b (e0q n s.2.2.2.2.1.1 (IntKind.wrap .i64 (Int.tdiv s.2.2.1 s.1.2.1.1))) fun r2 =>
 tif ((!r2)) (
 tif ((decide (s.1.2.1.2.1=0))) (
 none) (
 a0b (e0q n s.2.2.2.2.1.2.1 (IntKind.wrap .i64 (Int.tdiv s.2.2.1 s.1.2.1.2.1))) fun r3 =>
 tif ((!r3)) (
 tif ((decide (s.1.2.1.2.2=0))) (
 none) (
 a0b (e0q n s.2.2.2.2.1.2.2 (IntKind.wrap .i64 (Int.tdiv s.2.2.1 s.1.2.1.2.2))) fun r4 =>
 some (!r4))) (
 some false))) (
 some false))) (
 some false)) (
 some false)) (
 some false)) (
 some false):=by kernel_rfl
theorem o1j (n:Nat) (a:(Int×Int)) (over:Int):r0x (n+1) a over =
 tif ((!(decide (over=0)))) (
 some ((0,0),1)) (
 some (a,0)):=by kernel_rfl
theorem q0g (n:Nat) (s:(List (Int×(List UInt8×List UInt8)))) (f_:(((Int×(List UInt8×List UInt8))×Unit)→Option Bool)):l0h (n+1) s f_ =
 a0b (c0q n a0c (s,(f_,((((List.length s):Nat):Int),(0,()))))) fun r0 =>
 c0d (fun y1 =>
 some ((-1):Int)) (fun z2 =>
 some z2) r0:=by kernel_rfl
theorem h0g (n f:Nat) (s:(List (Int×(List UInt8×List UInt8)))) (f_:(((Int×(List UInt8×List UInt8))×Unit)→Option Bool)) (s7:Int) (s8:Int):c0q n (f+1) (s,f_,s7,s8,()) =
 tif ((decide (s8<s7))) (
 a0b (at? s s8) fun r0 =>
 a0b (f_ (r0,())) fun r1 =>
 tif (r1) (
 some (.inr s8)) (
 c0q n f (s,(f_,(s7,((IntKind.wrap .i64 (s8+1)),())))))) (
 some (.inl ())):=by kernel_rfl
theorem g1u (n:Nat) (l:(List (List UInt8×List UInt8))) (n_:List UInt8):v0w (n+1) l n_ =
 a0b (n0n n l (fun y0=>r0b n y0.1 n_)) fun r1 =>
 tif ((decide (r1<0))) (
 some []) (
 a0b (at? l r1) fun r2 =>
 some r2.2):=by kernel_rfl
theorem u0i (n:Nat) (s:List UInt8) (prefix_:List UInt8):strings_HasPrefix (n+1) s prefix_ =
 a0b (stringslite_HasPrefix n s prefix_) fun r0 =>
 some r0:=by kernel_rfl
theorem e1v (n:Nat) (c:Int):s0z (n+1) c =
 a0b (z0y n c) fun r0 =>
 some (!r0):=by kernel_rfl
theorem u0k (n:Nat) (w:(List Int)) (n_:Int):h0a (n+1) w n_ =
 a0b (e0z n a0c (w,(n_,()))) fun r0 =>
 c0d (fun y1 =>
 tif ((decide ((((List.length y1.1)+1)*1)≤140737488355328))) (
 some (y1.1++((IntKind.wrap .u8 y1.2.1)::[]))) (
 none)) (fun z2 =>
 some z2) r0:=by kernel_rfl
theorem r0i (n f:Nat) (w:(List Int)) (n_:Int):e0z n (f+1) (w,n_,()) =
 tif ((decide ((128:Int)≤n_))) (
 tif ((decide ((((List.length w)+1)*1)≤140737488355328))) (
 e0z n f ((w++((orI .u8 (IntKind.wrap .u8 n_) (128:Int))::[])),((shrI .u64 n_ (7:Int)),()))) (
 none)) (
 some (.inl (w,(n_,())))):=by kernel_rfl
theorem u0l (n:Nat) (w:(List Int)) (s:List UInt8):h0b (n+1) w s =
 a0b (h0a n w (IntKind.wrap .u64 (((List.length s):Nat):Int))) fun r0 =>
 a0b (e0l n r0 s) fun r1 =>
 some r1:=by kernel_rfl
theorem y1z (n:Nat) (t:Int) (now:Int) (w:Int) (n_:Int):d1a (n+1) t now w n_ =
 a0b (y1y n t w) fun r0 =>
 a0b (f0t n now w n_) fun r1 =>
 tif ((decide (r0.2=0))) (
 tif ((decide (r1.2=0))) (
 some (decide (r0.1<r1.1))) (
 some false)) (
 some false):=by kernel_rfl
theorem r1v (n:Nat) (c:d0a) (s:((List a0f)×((List a0f)×(List a0f)))):f1b (n+1) c s =
 a0b (f0z n c) fun r0 =>
 tif ((!(decide (r0=0)))) (
 some (none,r0)) (
 tif ((!(decide ((((List.length s.1):Nat):Int)=c.2.2.1.1)))) (
 some (none,2)) (
 a0b (o0v n s.1 c.2.1.1) fun r1 =>
 tif ((!(decide (r1=0)))) (
 some (none,2)) (
 tif ((!(decide ((((List.length s.2.1):Nat):Int)=c.2.2.1.2.1)))) (
 some (none,2)) (
 a0b (o0v n s.2.1 c.2.1.2.1) fun r2 =>
 tif ((!(decide (r2=0)))) (
 some (none,2)) (
 tif ((!(decide ((((List.length s.2.2):Nat):Int)=c.2.2.1.2.2)))) (
 some (none,2)) (
 a0b (o0v n s.2.2 c.2.1.2.2) fun r3 =>
 tif ((!(decide (r3=0)))) (
 some (none,2)) (
 some ((some (c,s)),0)))))))):=by kernel_rfl
theorem l1j (n:Nat) (l:(List a0v)):z0l (n+1) l =
 a0b (g0x n a0c (l,(l,((((List.length l):Nat):Int),(0,()))))) fun r0 =>
 c0d (fun y1 =>
 some true) (fun z2 =>
 some z2) r0:=by kernel_rfl
theorem r0o (n f:Nat) (l:(List a0v)) (s5:(List a0v)) (s6:Int) (s7:Int):g0x n (f+1) (l,s5,s6,s7,()) =
 tif ((decide (s7<s6))) (
 a0b (at? s5 s7) fun r0 =>
 a0b (m0x n r0) fun r1 =>
 tif ((!(decide (r1=0)))) (
 some (.inr false)) (
 tif ((decide ((0:Int)<s7))) (
 a0b (at? l (IntKind.wrap .i64 (s7-1))) fun r2 =>
 a0b (n0y n r2 r0) fun r3 =>
 tif ((!r3)) (
 some (.inr false)) (
 g0x n f (l,(s5,(s6,((IntKind.wrap .i64 (s7+1)),())))))) (
 g0x n f (l,(s5,(s6,((IntKind.wrap .i64 (s7+1)),()))))))) (
 some (.inl ())):=by kernel_rfl
theorem l1k (n:Nat) (r:(Int×(Int×(List a0v)))) (room:Int):i1z (n+1) r room =
 tif ((decide (r.1=0))) (
 some (decide (r.2.1=0))) (
 tif ((decide ((((List.length r.2.2):Nat):Int)=room))) (
 tif ((decide ((0:Int)≤r.2.1))) (
 a0b (at? r.2.2 (0:Int)) fun r0 =>
 some (decide (r.2.1<r0.1))) (
 some false)) (
 some false)):=by kernel_rfl
theorem b1y (n:Nat) (l:(List a0f)) (i:Int):e0q (n+1) l i =
 a0b (h0u n l (fun y0=>m0k n y0.1 i)) fun r1 =>
 some r1:=by kernel_rfl
theorem u1h (n:Nat) (r:(Int×(Int×(List a0v)))):l1l (n+1) r =
 tif ((decide ((((List.length r.2.2):Nat):Int)=0))) (
 some ((0,(0,(0,false))),3)) (
 a0b (at? r.2.2 (IntKind.wrap .i64 ((((List.length r.2.2):Nat):Int)-1))) fun r0 =>
 some (r0,0)):=by kernel_rfl
theorem p1c (n:Nat) (c:d0q) (w:Int) (i:Int):w0r (n+1) c w i =
 tif ((decide (c.1=0))) (
 some false) (
 a0b (p0p n c) fun r0 =>
 tif ((!(decide (r0=0)))) (
 some false) (
 a0b (g0h n a0c (w,(i,((c.2.1.1,c.2.2.1.1),(0,()))))) fun r1 =>
 c0d (fun y2 =>
 some true) (fun z3 =>
 some z3) r1)):=by kernel_rfl
theorem m0f (n f:Nat) (w:Int) (i:Int) (s25:(Int×Int)) (s26:Int):g0h n (f+1) (w,i,s25,s26,()) =
 tif ((decide (s26<2))) (
 tif ((decide (s26=0))) (
 a0b (y1y n s25.1 w) fun r0 =>
 tif ((!(decide (r0.2=0)))) (
 some (.inr false)) (
 tif ((!(decide (r0.1=i)))) (
 some (.inr false)) (
 g0h n f (w,(i,(s25,((IntKind.wrap .i64 (s26+1)),()))))))) (
 tif ((decide (s26=1))) (
 a0b (y1y n s25.2 w) fun r1 =>
 tif ((!(decide (r1.2=0)))) (
 some (.inr false)) (
 tif ((!(decide (r1.1=i)))) (
 some (.inr false)) (
 g0h n f (w,(i,(s25,((IntKind.wrap .i64 (s26+1)),()))))))) (
 none))) (
 some (.inl ())):=by kernel_rfl
theorem s0l (n:Nat) (s:(List (List UInt8×List UInt8))) (f_:(((List UInt8×List UInt8)×Unit)→Option Bool)):n0n (n+1) s f_ =
 a0b (d0f n a0c (s,(f_,((((List.length s):Nat):Int),(0,()))))) fun r0 =>
 c0d (fun y1 =>
 some ((-1):Int)) (fun z2 =>
 some z2) r0:=by kernel_rfl
theorem i0i (n f:Nat) (s:(List (List UInt8×List UInt8))) (f_:(((List UInt8×List UInt8)×Unit)→Option Bool)) (s7:Int) (s8:Int):d0f n (f+1) (s,f_,s7,s8,()) =
 tif ((decide (s8<s7))) (
 a0b (at? s s8) fun r0 =>
 a0b (f_ (r0,())) fun r1 =>
 tif (r1) (
 some (.inr s8)) (
 d0f n f (s,(f_,(s7,((IntKind.wrap .i64 (s8+1)),())))))) (
 some (.inl ())):=by kernel_rfl
theorem c1c (n:Nat) (x:(List UInt8×List UInt8)) (p1:List UInt8):r0b (n+1) x p1 =
 some (x.1==p1):=by kernel_rfl
theorem o0w (n:Nat) (s:List UInt8) (prefix_:List UInt8):stringslite_HasPrefix (n+1) s prefix_ =
 tif ((decide ((((List.length prefix_):Nat):Int)≤(((List.length s):Nat):Int)))) (
 tif (((decide ((0:Int)≤(((List.length prefix_):Nat):Int)))&&(decide ((((List.length prefix_):Nat):Int)≤(((List.length s):Nat):Int))))) (
 some ((List.drop 0 (List.take (Int.toNat (((List.length prefix_):Nat):Int)) s))==prefix_)) (
 none)) (
 some false):=by kernel_rfl
theorem i0o (n:Nat) (data:(List a0a)) (a:Int) (b:Int) (n_:Int) (cmp:((a0a×(a0a×Unit))→Option Int)):b0r (n+1) data a b n_ cmp =
 a0b (b0z n a0c (data,(a,(b,(n_,(0,())))))) fun r0 =>
 c0d (fun y1 =>
 some y1.1) (fun z2 =>
 some z2) r0:=by kernel_rfl
theorem d0w (n f:Nat) (data:(List a0a)) (a:Int) (b:Int) (n_:Int) (i:Int):b0z n (f+1) (data,a,b,n_,i,()) =
 tif ((decide (i<n_))) (
 a0b (at? data (IntKind.wrap .i64 (b+i))) fun r0 =>
 a0b ((data)[(Int.toNat (IntKind.wrap .i64 (b+i)))]?) fun r1 =>
 a0b (at? data (IntKind.wrap .i64 (a+i))) fun r2 =>
 a0b ((data)[(Int.toNat (IntKind.wrap .i64 (a+i)))]?) fun r3 =>
 a0b (at? data (IntKind.wrap .i64 (a+i))) fun r4 =>
 a0b ((data)[(Int.toNat (IntKind.wrap .i64 (a+i)))]?) fun r5 =>
 a0b (at? (List.set data (Int.toNat (IntKind.wrap .i64 (a+i))) r1) (IntKind.wrap .i64 (b+i))) fun r6 =>
 a0b (((List.set data (Int.toNat (IntKind.wrap .i64 (a+i))) r1))[(Int.toNat (IntKind.wrap .i64 (b+i)))]?) fun r7 =>
 b0z n f ((List.set (List.set data (Int.toNat (IntKind.wrap .i64 (a+i))) r1) (Int.toNat (IntKind.wrap .i64 (b+i))) r3),(a,(b,(n_,((IntKind.wrap .i64 (i+1)),())))))) (
 some (.inl (data,()))):=by kernel_rfl
theorem u0j (n:Nat) (s:(List Int)) (f_:((Int×Unit)→Option Bool)):p0b (n+1) s f_ =
 a0b (d0n n a0c (s,(f_,((((List.length s):Nat):Int),(0,()))))) fun r0 =>
 c0d (fun y1 =>
 some ((-1):Int)) (fun z2 =>
 some z2) r0:=by kernel_rfl
theorem i0q (n f:Nat) (s:(List Int)) (f_:((Int×Unit)→Option Bool)) (s7:Int) (s8:Int):d0n n (f+1) (s,f_,s7,s8,()) =
 tif ((decide (s8<s7))) (
 a0b (at? s s8) fun r0 =>
 a0b (f_ (r0,())) fun r1 =>
 tif (r1) (
 some (.inr s8)) (
 d0n n f (s,(f_,(s7,((IntKind.wrap .i64 (s8+1)),())))))) (
 some (.inl ())):=by kernel_rfl
theorem t1i (n:Nat) (l:(List a0f)):k1p (n+1) l =
 a0b (q0j n l) fun r0 =>
 a0b (i0t n r0 (fun y1=>s0f n y1.1)) fun r2 =>
 a0b (g0b n r2 (fun y3=>t0o n y3.1 y3.2.1)) fun r4 =>
 some r4:=by kernel_rfl
theorem w1d (n:Nat) (l:(List d0q)):o1d (n+1) l =
 a0b (n0g n a0c ((0,((0,(0,(0,false))),((0,(0,(0,false))),((0,0),(0,(0,0)))))),((0,((0,(0,(0,false))),((0,(0,(0,false))),((0,0),(0,(0,0)))))),(l,((((List.length l):Nat):Int),(0,())))))) fun r0 =>
 c0d (fun y1 =>
 some (y1.2.1,0)) (fun z2 =>
 some z2) r0:=by kernel_rfl
theorem v0d (n f:Nat) (s2:d0q) (c:d0q) (s9:(List d0q)) (s10:Int) (s11:Int):n0g n (f+1) (s2,c,s9,s10,s11,()) =
 tif ((decide (s11<s10))) (
 a0b (at? s9 s11) fun r0 =>
 a0b (i0l n c r0) fun r1 =>
 tif ((!(decide (r1.2=0)))) (
 some (.inr ((0,((0,(0,(0,false))),((0,(0,(0,false))),((0,0),(0,(0,0)))))),r1.2))) (
 n0g n f (s2,(r1.1,(s9,(s10,((IntKind.wrap .i64 (s11+1)),()))))))) (
 some (.inl (s2,(c,())))):=by kernel_rfl
theorem o1c (n:Nat) (c:d0q):p0p (n+1) c =
 a0b (t0k n c) fun r0 =>
 tif (r0) (
 some (0:Int)) (
 a0b (a1j n c) fun r1 =>
 tif ((!r1)) (
 some (2:Int)) (
 a0b (v0g n (18446744073709551615:Int)) fun r2 =>
 a0b (t0n n r2 (IntKind.wrap .u64 (IntKind.wrap .i64 (c.1-1)))) fun r3 =>
 tif ((!(decide (r3.2=0)))) (
 some (2:Int)) (
 a0b (h0w n r3.1 c.2.2.2.1) fun r4 =>
 tif (r4) (
 some (2:Int)) (
 a0b (f1n n c.2.2.2.2.2.1 (IntKind.wrap .i64 (c.1-1))) fun r5 =>
 tif ((!r5)) (
 some (2:Int)) (
 a0b (f1n n c.2.2.2.2.1 (IntKind.wrap .i64 ((IntKind.wrap .i64 (c.1-1))-c.2.2.2.2.2.1))) fun r6 =>
 tif ((!r6)) (
 some (2:Int)) (
 a0b (f1n n c.2.2.2.2.2.2 (IntKind.wrap .i64 (c.2.2.1.1-c.2.1.1))) fun r7 =>
 tif ((!r7)) (
 some (2:Int)) (
 some (0:Int)))))))):=by kernel_rfl
theorem s1m (n:Nat) (c:d0q):t0k (n+1) c =
 some ((decide (c.1=0))&&((decide (c.2.1.1=0))&&((decide (c.2.1.2.1=0))&&((decide (c.2.1.2.2.1=0))&&((c.2.1.2.2.2==false)&&((decide (c.2.2.1.1=0))&&((decide (c.2.2.1.2.1=0))&&((decide (c.2.2.1.2.2.1=0))&&((c.2.2.1.2.2.2==false)&&((decide (c.2.2.2.1.1=0))&&((decide (c.2.2.2.1.2=0))&&((decide (c.2.2.2.2.1=0))&&((decide (c.2.2.2.2.2.1=0))&&(decide (c.2.2.2.2.2.2=0))))))))))))))):=by kernel_rfl
theorem s1n (n:Nat) (a:d0q) (b:d0q):s1o (n+1) a b =
 a0b (r0g n a.2.2.1 b.2.1) fun r0 =>
 tif ((!(decide (r0.2=0)))) (
 some ((0,((0,(0,(0,false))),((0,(0,(0,false))),((0,0),(0,(0,0)))))),r0.2)) (
 a0b (k1b n (a.2.2.2.1::(r0.1.2.2.2.1::(b.2.2.2.1::[])))) fun r1 =>
 some (((IntKind.wrap .i64 (a.1+b.1)),(a.2.1,(b.2.2.1,(r1.1,((IntKind.wrap .i64 (r0.1.2.2.2.2.1+(IntKind.wrap .i64 (a.2.2.2.2.1+b.2.2.2.2.1)))),((IntKind.wrap .i64 (r0.1.2.2.2.2.2.1+(IntKind.wrap .i64 (a.2.2.2.2.2.1+b.2.2.2.2.2.1)))),(IntKind.wrap .i64 (r0.1.2.2.2.2.2.2+(IntKind.wrap .i64 (a.2.2.2.2.2.2+b.2.2.2.2.2.2)))))))))),r1.2)):=by kernel_rfl
theorem b1z (n:Nat) (a:(Int×Int)):g0y (n+1) a =
 tif ((decide (a.2=0))) (
 a0b (k0w n a.1) fun r0 =>
 some (IntKind.wrap .i64 ((64:Int)+r0))) (
 a0b (k0w n a.2) fun r1 =>
 some r1):=by kernel_rfl
theorem l1p (n:Nat) (a:(Int×Int)) (by_:Int):t0w (n+1) a by_ =
 tif ((decide ((64:Int)≤by_))) (
 tif ((decide ((IntKind.wrap .i64 (by_-64))<0))) (
 none) (
 some (0,(shrI .u64 a.1 (IntKind.wrap .i64 (by_-64)))))) (
 tif ((decide (by_<0))) (
 none) (
 tif ((decide (by_<0))) (
 none) (
 tif ((decide ((IntKind.wrap .i64 ((64:Int)-by_))<0))) (
 none) (
 some ((shrI .u64 a.1 by_),(orI .u64 (shrI .u64 a.2 by_) (shlI .u64 a.1 (IntKind.wrap .i64 ((64:Int)-by_))))))))):=by kernel_rfl
theorem l1o (n:Nat) (a:(Int×Int)) (b:(Int×Int)):j0s (n+1) a b =
 a0b (k1c n a b) fun r0 =>
 some r0.1:=by kernel_rfl
theorem u1i (n:Nat) (a:(Int×Int)) (by_:Int):x0l (n+1) a by_ =
 tif ((decide ((64:Int)≤by_))) (
 tif ((decide ((IntKind.wrap .i64 (by_-64))<0))) (
 none) (
 some ((shlI .u64 a.2 (IntKind.wrap .i64 (by_-64))),0))) (
 tif ((decide (by_<0))) (
 none) (
 tif ((decide ((IntKind.wrap .i64 ((64:Int)-by_))<0))) (
 none) (
 tif ((decide (by_<0))) (
 none) (
 some ((orI .u64 (shlI .u64 a.1 by_) (shrI .u64 a.2 (IntKind.wrap .i64 ((64:Int)-by_)))),(shlI .u64 a.2 by_)))))):=by kernel_rfl
theorem l1n (n:Nat) (a:(Int×Int)):t0v (n+1) a =
 tif ((!(decide (a.1=0)))) (
 a0b (e0d n a.1) fun r0 =>
 some (IntKind.wrap .i64 ((64:Int)+r0))) (
 a0b (e0d n a.2) fun r1 =>
 some r1):=by kernel_rfl
theorem k1n (n:Nat) (l:(List a0f)) (w:Int):o0v (n+1) l w =
 tif ((decide ((((List.length l):Nat):Int)=0))) (
 some (2:Int)) (
 tif ((decide ((4096:Int)<(((List.length l):Nat):Int)))) (
 some (2:Int)) (
 tif ((decide (w<1))) (
 some (2:Int)) (
 tif ((decide ((1099511627776:Int)<w))) (
 some (2:Int)) (
 a0b (g0s n a0c (l,(w,(l,((((List.length l):Nat):Int),(0,())))))) fun r0 =>
 c0d (fun y1 =>
 some (0:Int)) (fun z2 =>
 some z2) r0)))):=by kernel_rfl
theorem r0l (n f:Nat) (l:(List a0f)) (w:Int) (s23:(List a0f)) (s24:Int) (s25:Int):g0s n (f+1) (l,w,s23,s24,s25,()) =
 tif ((decide (s25<s24))) (
 a0b (at? s23 s25) fun r0 =>
 a0b (s0f n r0) fun r1 =>
 tif ((!r1)) (
 a0b (t1a n r0.1 (((List.length l):Nat):Int)) fun r2 =>
 tif ((!(decide (r2=s25)))) (
 some (.inr (2:Int))) (
 a0b (w0r n r0.2 w r0.1) fun r3 =>
 tif ((!r3)) (
 some (.inr (2:Int))) (
 g0s n f (l,(w,(s23,(s24,((IntKind.wrap .i64 (s25+1)),())))))))) (
 g0s n f (l,(w,(s23,(s24,((IntKind.wrap .i64 (s25+1)),()))))))) (
 some (.inl ())):=by kernel_rfl
theorem q0i (n:Nat) (s:(List a0f)) (f_:((a0f×Unit)→Option Bool)):h0u (n+1) s f_ =
 a0b (j0o n s f_) fun r0 =>
 some (decide ((0:Int)≤r0)):=by kernel_rfl
theorem x0h (n:Nat) (s:a0f) (p1:Int):m0k (n+1) s p1 =
 tif ((decide ((0:Int)<s.2.1))) (
 some (decide (p1≤s.1))) (
 some false):=by kernel_rfl
theorem h1o (n:Nat) (l:(List a0v)):m0w (n+1) l =
 a0b (k0f n a0c (l,((((List.length l):Nat):Int),(0,())))) fun r0 =>
 c0d (fun y1 =>
 some true) (fun z2 =>
 some z2) r0:=by kernel_rfl
theorem p0m (n f:Nat) (s5:(List a0v)) (s6:Int) (s7:Int):k0f n (f+1) (s5,s6,s7,()) =
 tif ((decide (s7<s6))) (
 a0b (at? s5 s7) fun r0 =>
 a0b (m0x n r0) fun r1 =>
 tif ((!(decide (r1=0)))) (
 some (.inr false)) (
 k0f n f (s5,(s6,((IntKind.wrap .i64 (s7+1)),()))))) (
 some (.inl ())):=by kernel_rfl
theorem s0m (n:Nat) (s:(List a0f)) (del:((a0f×Unit)→Option Bool)):i0t (n+1) s del =
 a0b (j0o n s del) fun r0 =>
 tif ((decide (r0=((-1):Int)))) (
 some s) (
 a0b (d0g n a0c (s,(del,(r0,((IntKind.wrap .i64 (r0+1)),()))))) fun r1 =>
 c0d (fun y2 =>
 tif ((decide ((0:Int)≤y2.2.1))) (
 tif ((decide ((Int.toNat y2.2.1)≤(List.length y2.1)))) (
 tif ((decide (((Int.toNat y2.2.1)+((List.length y2.1)-(Int.toNat y2.2.1)))≤(List.length y2.1)))) (
 tif (((decide ((0:Int)≤y2.2.1))&&(decide (y2.2.1≤(((List.length (Go.Flat.putRow y2.1 (Int.toNat y2.2.1) (List.replicate ((List.length y2.1)-(Int.toNat y2.2.1)) (0,(0,((0,(0,(0,false))),((0,(0,(0,false))),((0,0),(0,(0,0)))))))))):Nat):Int))))) (
 some (List.take ((Int.toNat y2.2.1)-0) (Go.Flat.putRow y2.1 (Int.toNat y2.2.1) (List.replicate ((List.length y2.1)-(Int.toNat y2.2.1)) (0,(0,((0,(0,(0,false))),((0,(0,(0,false))),((0,0),(0,(0,0))))))))))) (
 none)) (
 none)) (
 none)) (
 none)) (fun z3 =>
 some z3) r1):=by kernel_rfl
theorem i0j (n f:Nat) (s:(List a0f)) (del:((a0f×Unit)→Option Bool)) (i:Int) (j:Int):d0g n (f+1) (s,del,i,j,()) =
 tif ((decide (j<(((List.length s):Nat):Int)))) (
 a0b (at? s j) fun r0 =>
 a0b ((s)[(Int.toNat j)]?) fun r1 =>
 a0b (del (r1,())) fun r2 =>
 tif ((!r2)) (
 a0b (at? s i) fun r3 =>
 a0b ((s)[(Int.toNat i)]?) fun r4 =>
 d0g n f ((List.set s (Int.toNat i) r1),(del,((IntKind.wrap .i64 (i+1)),((IntKind.wrap .i64 (j+1)),()))))) (
 d0g n f (s,(del,(i,((IntKind.wrap .i64 (j+1)),())))))) (
 some (.inl (s,(i,())))):=by kernel_rfl
theorem o1y (n:Nat) (s:a0f):s0f (n+1) s =
 some ((decide (s.1=0))&&((decide (s.2.1=0))&&((decide (s.2.2.1.1=0))&&((decide (s.2.2.1.2.1=0))&&((decide (s.2.2.1.2.2.1=0))&&((s.2.2.1.2.2.2==false)&&((decide (s.2.2.2.1.1=0))&&((decide (s.2.2.2.1.2.1=0))&&((decide (s.2.2.2.1.2.2.1=0))&&((s.2.2.2.1.2.2.2==false)&&((decide (s.2.2.2.2.1.1=0))&&((decide (s.2.2.2.2.1.2=0))&&((decide (s.2.2.2.2.2.1=0))&&((decide (s.2.2.2.2.2.2.1=0))&&(decide (s.2.2.2.2.2.2.2=0)))))))))))))))):=by kernel_rfl
theorem o0j (n:Nat) (x:(List a0f)) (cmp:((a0f×(a0f×Unit))→Option Int)):g0b (n+1) x cmp =
 a0b (e2c n x (((List.length x):Nat):Int) cmp) fun r0 =>
 some r0:=by kernel_rfl
theorem k1o (n:Nat) (a:a0f) (b:a0f):t0o (n+1) a b =
 a0b (j0x n a.1 b.1) fun r0 =>
 some r0:=by kernel_rfl
theorem u0m (n:Nat) (x:Int) (y:Int):j0x (n+1) x y =
 a0b (n0e n x) fun r0 =>
 a0b (n0e n y) fun r1 =>
 tif (r0) (
 tif (r1) (
 some (0:Int)) (
 some ((-1):Int))) (
 tif (r1) (
 some (1:Int)) (
 tif ((decide (x<y))) (
 some ((-1):Int)) (
 tif ((decide (y<x))) (
 some (1:Int)) (
 some (0:Int))))):=by kernel_rfl
theorem o1a (n:Nat) (c:d0q):a1j (n+1) c =
 tif ((decide (c.1=1))) (
 tif (((decide (c.2.1.1=c.2.2.1.1))&&((decide (c.2.1.2.1=c.2.2.1.2.1))&&((decide (c.2.1.2.2.1=c.2.2.1.2.2.1))&&(c.2.1.2.2.2==c.2.2.1.2.2.2))))) (
 a0b (m0x n c.2.1) fun r0 =>
 some (decide (r0=0))) (
 some false)) (
 tif ((decide ((1:Int)<c.1))) (
 a0b (n0y n c.2.1 c.2.2.1) fun r1 =>
 tif (r1) (
 some (decide ((IntKind.wrap .i64 (c.1-1))≤(IntKind.wrap .i64 (c.2.2.1.1-c.2.1.1))))) (
 some false)) (
 some false)):=by kernel_rfl
theorem b1q (n:Nat) (x:Int):k0w (n+1) x =
 tif ((decide (x=0))) (
 some (64:Int)) (
 a0b (at? ((0:Int)::((1:Int)::((56:Int)::((2:Int)::((57:Int)::((49:Int)::((28:Int)::((3:Int)::((61:Int)::((58:Int)::((42:Int)::((50:Int)::((38:Int)::((29:Int)::((17:Int)::((4:Int)::((62:Int)::((47:Int)::((59:Int)::((36:Int)::((45:Int)::((43:Int)::((51:Int)::((22:Int)::((53:Int)::((39:Int)::((33:Int)::((30:Int)::((24:Int)::((18:Int)::((12:Int)::((5:Int)::((63:Int)::((55:Int)::((48:Int)::((27:Int)::((60:Int)::((41:Int)::((37:Int)::((16:Int)::((46:Int)::((35:Int)::((44:Int)::((21:Int)::((52:Int)::((32:Int)::((23:Int)::((11:Int)::((54:Int)::((26:Int)::((40:Int)::((15:Int)::((34:Int)::((20:Int)::((31:Int)::((10:Int)::((25:Int)::((14:Int)::((19:Int)::((9:Int)::((13:Int)::((8:Int)::((7:Int)::((6:Int)::[])))))))))))))))))))))))))))))))))))))))))))))))))))))))))))))))) (shrI .u64 (IntKind.wrap .u64 ((285870213051353865:Int)*(andI .u64 x (IntKind.wrap .u64 ((0:Int)-x))))) (58:Int))) fun r0 =>
 some (IntKind.wrap .i64 r0)):=by kernel_rfl
theorem z0i (n:Nat) (x0:List (a0v)) (x1:Int):o0m (n+1) x0 x1=k0u x0 x1:=by
    have h:o0m (n+1) x0 x1=Option.bind (k0u x0 x1) (fun z=>some z):=by kernel_rfl
    rw[h];cases k0u x0 x1<;>rfl
theorem k0j (n:Nat) (x0:List UInt8) (x1:List UInt8):b0d (n+1) x0 x1=g0n x0 x1:=by
    have h:b0d (n+1) x0 x1=Option.bind (g0n x0 x1) (fun z=>some z):=by kernel_rfl
    rw[h];cases g0n x0 x1<;>rfl
theorem d0e (n:Nat) (x0:List UInt8):c0l (n+1) x0=some (x0,x0):=by kernel_rfl
theorem b1x (n:Nat) (x0:List (a0f)) (x1:Int):q0k (n+1) x0 x1=k0u x0 x1:=by
    have h:q0k (n+1) x0 x1=Option.bind (k0u x0 x1) (fun z=>some z):=by kernel_rfl
    rw[h];cases k0u x0 x1<;>rfl
theorem q0c (n:Nat) (x0:List UInt8) (x1:Int):d0m (n+1) x0 x1=v1l x0 x1:=by
    have h:d0m (n+1) x0 x1=Option.bind (v1l x0 x1) (fun z=>some z):=by kernel_rfl
    rw[h];cases v1l x0 x1<;>rfl
theorem e0g (n:Nat) (x0:List UInt8):f0p (n+1) x0=some ((x0.length:Int),x0):=by kernel_rfl
end Go.Proofs.YtagnkfbpgkckiaaGreatDoor
