/- Trees, printed by program. -/
import Derived.Test.YtgkpkajaepphjaaGreatDoorTr0
import Derived.KernelRfl
set_option linter.unusedVariables false
namespace Go.Proofs.YtgkpkajaepphjaaGreatDoor
open Go.Flat
theorem o0g (n:Nat) (x:Int):l0q (n+1) x =
 some (!(decide (x=x))):=by kernel_rfl
theorem f2y (n:Nat) (t:Int) (now:Int) (w:Int) (n_:Int):f1g (n+1) t now w n_ =
 a0b (f2x n t w) fun r0 =>
 a0b (f0s n now w n_) fun r1 =>
 tif ((decide (r0.2=0))) (
 tif ((decide (r1.2=0))) (
 some (decide (r0.1<r1.1))) (
 some false)) (
 some false):=by kernel_rfl
theorem wi_Of_eq (n:Nat) (t:Int) (w:Int):f2x (n+1) t w =
 a0b (r0f n t (0:Int) (35184372088831:Int)) fun r0 =>
 tif ((!r0)) (
 some (0,1)) (
 a0b (p1q n w) fun r1 =>
 tif ((!r1)) (
 some (0,1)) (
 tif ((decide (w=0))) (
 none) (
 some ((IntKind.wrap .i64 (Int.tdiv t w)),0)))):=by kernel_rfl
theorem u1j (n:Nat) (n_:Int) (low:Int) (high:Int):u1k (n+1) n_ low high =
 tif ((decide (low≤n_))) (
 some (decide (n_≤high))) (
 some false):=by kernel_rfl
theorem e1a (n:Nat) (s:(List a0f)):r0o (n+1) s =
 tif ((decide ((List.length s)=0))) (
 both (
 some []) (
 tif ((decide (((0+(List.length s))*120)≤140737488355328))) (
 some ([]++s)) (
 none))) (
 tif ((decide (((0+(List.length s))*120)≤140737488355328))) (
 some ([]++s)) (
 none)):=by kernel_rfl
theorem d1v (n:Nat) (x:Int):l0j (n+1) x =
 tif ((decide (x=0))) (
 some (64:Int)) (
 a0b (at? ((0:Int)::((1:Int)::((56:Int)::((2:Int)::((57:Int)::((49:Int)::((28:Int)::((3:Int)::((61:Int)::((58:Int)::((42:Int)::((50:Int)::((38:Int)::((29:Int)::((17:Int)::((4:Int)::((62:Int)::((47:Int)::((59:Int)::((36:Int)::((45:Int)::((43:Int)::((51:Int)::((22:Int)::((53:Int)::((39:Int)::((33:Int)::((30:Int)::((24:Int)::((18:Int)::((12:Int)::((5:Int)::((63:Int)::((55:Int)::((48:Int)::((27:Int)::((60:Int)::((41:Int)::((37:Int)::((16:Int)::((46:Int)::((35:Int)::((44:Int)::((21:Int)::((52:Int)::((32:Int)::((23:Int)::((11:Int)::((54:Int)::((26:Int)::((40:Int)::((15:Int)::((34:Int)::((20:Int)::((31:Int)::((10:Int)::((25:Int)::((14:Int)::((19:Int)::((9:Int)::((13:Int)::((8:Int)::((7:Int)::((6:Int)::[])))))))))))))))))))))))))))))))))))))))))))))))))))))))))))))))) (shrI .u64 (IntKind.wrap .u64 ((285870213051353865:Int)*(andI .u64 x (IntKind.wrap .u64 ((0:Int)-x))))) (58:Int))) fun r0 =>
 some (IntKind.wrap .i64 r0)):=by kernel_rfl
theorem z1d (n:Nat) (a:(Int×Int)) (b:(Int×Int)):p1p (n+1) a b =
 tif ((((decide ((0:Int)≤a.2))&&(decide ((0:Int)≤b.2)))&&((decide (b.2<18446744073709551616))&&true))) (
 tif ((((decide ((0:Int)≤a.1))&&(decide ((0:Int)≤b.1)))&&((decide (b.1<18446744073709551616))&&((decide ((0:Int)≤(if a.2<(b.2+0) then (1:Int) else (0:Int))))&&(decide ((if a.2<(b.2+0) then (1:Int) else (0:Int))≤1)))))) (
 a0b (s0s n ((((a.1-b.1)-(if a.2<(b.2+0) then (1:Int) else (0:Int))) % (18446744073709551616:Int)),(((a.2-b.2)-0) % (18446744073709551616:Int))) (if a.1<(b.1+(if a.2<(b.2+0) then (1:Int) else (0:Int))) then (1:Int) else (0:Int))) fun r0 =>
 some r0) (
 none)) (
 none):=by kernel_rfl
theorem w1b (n:Nat) (c:b0e):g1i (n+1) c =
 a0b (q0d n c.1 (16:Int)) fun r0 =>
 a0b (q0d n c.2.2.1.1 (4:Int)) fun r1 =>
 a0b (q0d n c.2.2.1.2.1 (4:Int)) fun r2 =>
 a0b (q0d n c.2.2.1.2.2 (4:Int)) fun r3 =>
 some (IntKind.wrap .i64 ((IntKind.wrap .i64 ((IntKind.wrap .i64 ((IntKind.wrap .i64 ((1:Int)+r0))+r1))+r2))+r3)):=by kernel_rfl
theorem b2e (n:Nat) (a:(Int×(Int×(List a0x)))) (b:(Int×(Int×(List a0x)))):d2y (n+1) a b =
 tif ((decide (a.1=b.1))) (
 tif ((decide (a.2.1=b.2.1))) (
 a0b (t0q n a.2.2 b.2.2) fun r0 =>
 some r0) (
 some false)) (
 some false):=by kernel_rfl
theorem a2y (n:Nat) (a:((List a0f)×((List a0f)×(List a0f)))) (b:((List a0f)×((List a0f)×(List a0f)))):d2w (n+1) a b =
 a0b (z0l n a.1 b.1) fun r0 =>
 tif ((!r0)) (
 some false) (
 a0b (z0l n a.2.1 b.2.1) fun r1 =>
 tif ((!r1)) (
 some false) (
 a0b (z0l n a.2.2 b.2.2) fun r2 =>
 tif ((!r2)) (
 some false) (
 some true))):=by kernel_rfl
theorem w1i (n:Nat) (e:a0x):n0x (n+1) e =
 tif ((decide (e.1<0))) (
 some (2:Int)) (
 tif ((decide ((35184372088832:Int)≤e.1))) (
 some (2:Int)) (
 tif ((decide (e.2.2.1<0))) (
 some (2:Int)) (
 tif ((decide (e.1<e.2.2.1))) (
 some (2:Int)) (
 tif (e.2.2.2) (
 tif ((!(decide (e.2.1=0)))) (
 some (2:Int)) (
 tif ((!(decide (e.2.2.1=0)))) (
 some (2:Int)) (
 some (0:Int)))) (
 some (0:Int)))))):=by kernel_rfl
theorem v1z (n:Nat) (l:(List a0f)) (w:Int):t0p (n+1) l w =
 tif ((decide ((((List.length l):Nat):Int)<1))) (
 some (2:Int)) (
 tif ((decide ((4096:Int)<(((List.length l):Nat):Int)))) (
 some (2:Int)) (
 tif ((decide (w<1))) (
 some (2:Int)) (
 tif ((decide ((1099511627776:Int)<w))) (
 some (2:Int)) (
 a0b (i0u n a0d (l,(w,(l,((((List.length l):Nat):Int),(0,())))))) fun r0 =>
 b0d (fun y1 =>
 some (0:Int)) (fun z2 =>
 some z2) r0)))):=by kernel_rfl
theorem t0o (n f:Nat) (l:(List a0f)) (w:Int) (s23:(List a0f)) (s24:Int) (s25:Int):i0u n (f+1) (l,w,s23,s24,s25,()) =
 tif ((decide (s25<s24))) (
 a0b (at? s23 s25) fun r0 =>
 tif (((decide (r0.1=0))&&((decide (r0.2.1=0))&&((decide (r0.2.2.1.1=0))&&((decide (r0.2.2.1.2.1=0))&&((decide (r0.2.2.1.2.2.1=0))&&((r0.2.2.1.2.2.2==false)&&((decide (r0.2.2.2.1.1=0))&&((decide (r0.2.2.2.1.2.1=0))&&((decide (r0.2.2.2.1.2.2.1=0))&&((r0.2.2.2.1.2.2.2==false)&&((decide (r0.2.2.2.2.1.1=0))&&((decide (r0.2.2.2.2.1.2=0))&&((decide (r0.2.2.2.2.2.1=0))&&((decide (r0.2.2.2.2.2.2.1=0))&&(decide (r0.2.2.2.2.2.2.2=0))))))))))))))))) (
 i0u n f (l,(w,(s23,(s24,((IntKind.wrap .i64 (s25+1)),())))))) (
 a0b (e1s n r0.2 w r0.1) fun r1 =>
 tif ((!r1)) (
 some (.inr (2:Int))) (
 a0b (e1t n r0.1 (((List.length l):Nat):Int)) fun r2 =>
 tif ((!(decide (r2=s25)))) (
 some (.inr (2:Int))) (
 i0u n f (l,(w,(s23,(s24,((IntKind.wrap .i64 (s25+1)),()))))))))) (
 some (.inl ())):=by kernel_rfl
theorem l2m (n:Nat) (t:Int) (w:Int):d0m (n+1) t w =
 tif ((decide (t<0))) (
 some (0,1)) (
 tif ((decide ((35184372088832:Int)≤t))) (
 some (0,1)) (
 a0b (g1j n w) fun r0 =>
 tif ((!r0)) (
 some (0,1)) (
 tif ((decide (w=0))) (
 none) (
 tif ((decide (w=0))) (
 none) (
 some ((IntKind.wrap .i64 (Int.tdiv (IntKind.wrap .i64 (t-(Int.tmod t w))) w)),0)))))):=by kernel_rfl
theorem b2k (n:Nat) (t:Int) (now:Int) (w:Int) (n_:Int):z0q (n+1) t now w n_ =
 a0b (d0m n t w) fun r0 =>
 a0b (e0r n now w n_) fun r1 =>
 tif ((decide (r0.2=0))) (
 tif ((decide (r1.2=0))) (
 some (decide (r0.1<r1.1))) (
 some false)) (
 some false):=by kernel_rfl
theorem r1p (n:Nat) (num:(Int×Int)) (den:(Int×Int)):b1t (n+1) num den =
 tif (((decide (den.1=0))&&(decide (den.2=0)))) (
 some (((0,0),(0,0)),1)) (
 a0b (b2w n num den) fun r0 =>
 a0b (u0a n num r0) fun r1 =>
 a0b (u0a n den r0) fun r2 =>
 some ((r1.1,r2.1),0)):=by kernel_rfl
theorem t1p (n:Nat) (n_:Int) (by_:Int):m0w (n+1) n_ by_ =
 tif ((decide (by_=0))) (
 none) (
 some (IntKind.wrap .i64 (Int.tdiv (IntKind.wrap .i64 ((IntKind.wrap .i64 (n_+by_))-1)) by_))):=by kernel_rfl
theorem a2h (n:Nat) (a:(Int×(Int×(List a0x)))) (b:(Int×(Int×(List a0x)))):d2t (n+1) a b =
 tif ((decide (a.1=b.1))) (
 tif ((decide (a.2.1=b.2.1))) (
 a0b (p0g n a.2.2 b.2.2) fun r0 =>
 some r0) (
 some false)) (
 some false):=by kernel_rfl
theorem d1z (n:Nat) (s1:(List a0f)) (s2:(List a0f)):j0h (n+1) s1 s2 =
 tif ((!(decide ((((List.length s1):Nat):Int)=(((List.length s2):Nat):Int))))) (
 some false) (
 a0b (i0e n a0d (s1,(s2,((((List.length s1):Nat):Int),(0,()))))) fun r0 =>
 b0d (fun y1 =>
 some true) (fun z2 =>
 some z2) r0):=by kernel_rfl
theorem n0p (n f:Nat) (s1:(List a0f)) (s2:(List a0f)) (s12:Int) (s13:Int):i0e n (f+1) (s1,s2,s12,s13,()) =
 tif ((decide (s13<s12))) (
 a0b (at? s1 s13) fun r0 =>
 a0b (at? s2 s13) fun r1 =>
 tif ((!((decide (r0.1=r1.1))&&((decide (r0.2.1=r1.2.1))&&((decide (r0.2.2.1.1=r1.2.2.1.1))&&((decide (r0.2.2.1.2.1=r1.2.2.1.2.1))&&((decide (r0.2.2.1.2.2.1=r1.2.2.1.2.2.1))&&((r0.2.2.1.2.2.2==r1.2.2.1.2.2.2)&&((decide (r0.2.2.2.1.1=r1.2.2.2.1.1))&&((decide (r0.2.2.2.1.2.1=r1.2.2.2.1.2.1))&&((decide (r0.2.2.2.1.2.2.1=r1.2.2.2.1.2.2.1))&&((r0.2.2.2.1.2.2.2==r1.2.2.2.1.2.2.2)&&((decide (r0.2.2.2.2.1.1=r1.2.2.2.2.1.1))&&((decide (r0.2.2.2.2.1.2=r1.2.2.2.2.1.2))&&((decide (r0.2.2.2.2.2.1=r1.2.2.2.2.2.1))&&((decide (r0.2.2.2.2.2.2.1=r1.2.2.2.2.2.2.1))&&(decide (r0.2.2.2.2.2.2.2=r1.2.2.2.2.2.2.2)))))))))))))))))) (
 some (.inr false)) (
 i0e n f (s1,(s2,(s12,((IntKind.wrap .i64 (s13+1)),())))))) (
 some (.inl ())):=by kernel_rfl
theorem n1n (n:Nat) (c:Int):s0f (n+1) c =
 tif ((decide ((48:Int)≤c))) (
 some (decide (c≤57))) (
 some false):=by kernel_rfl
theorem r0m (n:Nat) (s:(List Int)) (f_:((Int×Unit)→Option Bool)):h0s (n+1) s f_ =
 a0b (p0v n s f_) fun r0 =>
 some (decide ((0:Int)≤r0)):=by kernel_rfl
theorem i1n (n:Nat) (c:Int):u0l (n+1) c =
 a0b (c1d n c) fun r0 =>
 some (!r0):=by kernel_rfl
theorem s1u (n:Nat) (c:Int):c1d (n+1) c =
 a0b (s0f n c) fun r0 =>
 tif (r0) (
 some true) (
 tif ((decide (c=95))) (
 some true) (
 tif ((decide ((97:Int)≤(orI .u8 c (32:Int))))) (
 some (decide ((orI .u8 c (32:Int))≤122))) (
 some false))):=by kernel_rfl
theorem j1q (n:Nat) (a:(Int×Int)) (d:(Int×Int)):r0r (n+1) a d =
 a0b (v0i n a) fun r0 =>
 a0b (v0i n d) fun r1 =>
 a0b (i0a n a0d (a,(d,((0,0),((0,0),((IntKind.wrap .i64 (r0-r1)),())))))) fun r2 =>
 b0d (fun y3 =>
 some y3.2.1) (fun z4 =>
 some z4) r2:=by kernel_rfl
theorem k0h (n f:Nat) (a_:(Int×Int)) (d_:(Int×Int)) (s4:(Int×Int)) (q:(Int×Int)) (by_:Int):i0a n (f+1) (a_,d_,s4,q,by_,()) =
 tif ((decide ((0:Int)≤by_))) (
 a0b (z0c n d_ by_) fun r0 =>
 a0b (n0g n a_ r0) fun r1 =>
 tif (r1) (
 i0a n f (a_,(d_,(s4,(q,((IntKind.wrap .i64 (by_-1)),())))))) (
 a0b (k0i n a_ r0) fun r2 =>
 a0b (n0f n (1:Int)) fun r3 =>
 a0b (z0c n r3 by_) fun r4 =>
 i0a n f (r2,(d_,(s4,(((orI .u64 q.1 r4.1),(orI .u64 q.2 r4.2)),((IntKind.wrap .i64 (by_-1)),()))))))) (
 some (.inl (s4,(q,())))):=by kernel_rfl
theorem y1e (n:Nat) (c:b0e) (s:((List a0f)×((List a0f)×(List a0f)))):i1p (n+1) c s =
 a0b (k0l n c) fun r0 =>
 tif ((!(decide (r0=0)))) (
 some (none,r0)) (
 tif ((!(decide ((((List.length s.1):Nat):Int)=c.2.2.1.1)))) (
 some (none,2)) (
 a0b (p0q n s.1 c.2.1.1) fun r1 =>
 tif ((!(decide (r1=0)))) (
 some (none,2)) (
 tif ((!(decide ((((List.length s.2.1):Nat):Int)=c.2.2.1.2.1)))) (
 some (none,2)) (
 a0b (p0q n s.2.1 c.2.1.2.1) fun r2 =>
 tif ((!(decide (r2=0)))) (
 some (none,2)) (
 tif ((!(decide ((((List.length s.2.2):Nat):Int)=c.2.2.1.2.2)))) (
 some (none,2)) (
 a0b (p0q n s.2.2 c.2.1.2.2) fun r3 =>
 tif ((!(decide (r3=0)))) (
 some (none,2)) (
 some ((some (c,s)),0)))))))):=by kernel_rfl
theorem q1r (n:Nat) (l:(List a0x)):b1n (n+1) l =
 a0b (h0f n a0d (l,(l,((((List.length l):Nat):Int),(0,()))))) fun r0 =>
 b0d (fun y1 =>
 some true) (fun z2 =>
 some z2) r0:=by kernel_rfl
theorem s0n (n f:Nat) (l:(List a0x)) (s5:(List a0x)) (s6:Int) (s7:Int):h0f n (f+1) (l,s5,s6,s7,()) =
 tif ((decide (s7<s6))) (
 a0b (at? s5 s7) fun r0 =>
 a0b (e0j n r0) fun r1 =>
 tif ((!(decide (r1=0)))) (
 some (.inr false)) (
 tif ((decide ((0:Int)<s7))) (
 a0b (at? l (IntKind.wrap .i64 (s7-1))) fun r2 =>
 a0b (o0v n r2 r0) fun r3 =>
 tif ((!r3)) (
 some (.inr false)) (
 h0f n f (l,(s5,(s6,((IntKind.wrap .i64 (s7+1)),())))))) (
 h0f n f (l,(s5,(s6,((IntKind.wrap .i64 (s7+1)),()))))))) (
 some (.inl ())):=by kernel_rfl
theorem q1s (n:Nat) (r:(Int×(Int×(List a0x)))) (room:Int):o1q (n+1) r room =
 tif ((decide (r.1=0))) (
 some (decide (r.2.1=0))) (
 tif ((decide ((((List.length r.2.2):Nat):Int)=room))) (
 tif ((decide ((0:Int)≤r.2.1))) (
 a0b (at? r.2.2 (0:Int)) fun r0 =>
 some (decide (r.2.1<r0.1))) (
 some false)) (
 some false)):=by kernel_rfl
theorem e1b (n:Nat) (l:(List a0f)) (i:Int):e0v (n+1) l i =
 a0b (h0u n l (fun y0=>n0q n y0.1 i)) fun r1 =>
 some r1:=by kernel_rfl
theorem a2i (n:Nat) (r:(Int×(Int×(List a0x)))):q1t (n+1) r =
 tif ((decide ((((List.length r.2.2):Nat):Int)=0))) (
 some ((0,(0,(0,false))),3)) (
 a0b (at? r.2.2 (IntKind.wrap .i64 ((((List.length r.2.2):Nat):Int)-1))) fun r0 =>
 some (r0,0)):=by kernel_rfl
theorem u1t (n:Nat) (c:b0k) (w:Int) (i:Int):y0j (n+1) c w i =
 tif ((decide (c.1=0))) (
 some false) (
 a0b (q0x n c) fun r0 =>
 tif ((!(decide (r0=0)))) (
 some false) (
 a0b (g0o n a0d (w,(i,((c.2.1.1,c.2.2.1.1),(0,()))))) fun r1 =>
 b0d (fun y2 =>
 some true) (fun z3 =>
 some z3) r1)):=by kernel_rfl
theorem n0l (n f:Nat) (w:Int) (i:Int) (s25:(Int×Int)) (s26:Int):g0o n (f+1) (w,i,s25,s26,()) =
 tif ((decide (s26<2))) (
 tif ((decide (s26=0))) (
 a0b (f2x n s25.1 w) fun r0 =>
 tif ((!(decide (r0.2=0)))) (
 some (.inr false)) (
 tif ((!(decide (r0.1=i)))) (
 some (.inr false)) (
 g0o n f (w,(i,(s25,((IntKind.wrap .i64 (s26+1)),()))))))) (
 tif ((decide (s26=1))) (
 a0b (f2x n s25.2 w) fun r1 =>
 tif ((!(decide (r1.2=0)))) (
 some (.inr false)) (
 tif ((!(decide (r1.1=i)))) (
 some (.inr false)) (
 g0o n f (w,(i,(s25,((IntKind.wrap .i64 (s26+1)),()))))))) (
 none))) (
 some (.inl ())):=by kernel_rfl
theorem z1m (n:Nat) (l:(List a0f)):q1b (n+1) l =
 a0b (r0o n l) fun r0 =>
 a0b (j0i n r0 (fun y1=>s0v n y1.1)) fun r2 =>
 a0b (g0e n r2 (fun y3=>v0a n y3.1 y3.2.1)) fun r4 =>
 some r4:=by kernel_rfl
theorem b2j (n:Nat) (i:Int) (n_:Int):e1t (n+1) i n_ =
 tif ((decide (i<0))) (
 some (0:Int)) (
 tif ((decide (n_<1))) (
 some (0:Int)) (
 tif ((decide (n_=0))) (
 none) (
 some (Int.tmod i n_)))):=by kernel_rfl
theorem i1s (n:Nat) (p:a0x) (c:a0x):o0v (n+1) p c =
 a0b (o0e n (p::(c::[]))) fun r0 =>
 tif (r0) (
 some (decide (p.1<c.1))) (
 some false):=by kernel_rfl
theorem n1o (n:Nat) (l:(List (List UInt8×List UInt8))) (n_:List UInt8):x0r (n+1) l n_ =
 a0b (o0k n l (fun y0=>s0g n y0.1 n_)) fun r1 =>
 tif ((decide (r1<0))) (
 some []) (
 a0b (at? l r1) fun r2 =>
 some r2.2):=by kernel_rfl
theorem v0z (n:Nat) (s:List UInt8) (prefix_:List UInt8):strings_HasPrefix (n+1) s prefix_ =
 a0b (stringslite_HasPrefix n s prefix_) fun r0 =>
 some r0:=by kernel_rfl
theorem r1l (n:Nat) (now:Int) (w:Int) (n_:Int):e0r (n+1) now w n_ =
 a0b (d0m n now w) fun r0 =>
 tif ((!(decide (r0.2=0)))) (
 some (0,1)) (
 tif ((decide (n_<1))) (
 some (0,1)) (
 tif ((decide ((4096:Int)<n_))) (
 some (0,1)) (
 some ((if (IntKind.wrap .i64 ((IntKind.wrap .i64 (r0.1-n_))+1))<0 then (0:Int) else (IntKind.wrap .i64 ((IntKind.wrap .i64 (r0.1-n_))+1))),0)))):=by kernel_rfl
theorem k0z (n:Nat) (data:(List a0a)) (a:Int) (m:Int) (b:Int) (cmp:((a0a×(a0a×Unit))→Option Int)):c0i (n+1) data a m b cmp =
 a0b (b0u n a0d (data,(m,(cmp,((IntKind.wrap .i64 (m-a)),((IntKind.wrap .i64 (b-m)),())))))) fun r0 =>
 b0d (fun y1 =>
 a0b (b0s n y1.1 (IntKind.wrap .i64 (y1.2.1-y1.2.2.2.1)) y1.2.1 y1.2.2.2.1 y1.2.2.1) fun r2 =>
 some r2) (fun z3 =>
 some z3) r0:=by kernel_rfl
theorem j0e (n f:Nat) (data:(List a0a)) (m:Int) (cmp:((a0a×(a0a×Unit))→Option Int)) (i:Int) (j:Int):b0u n (f+1) (data,m,cmp,i,j,()) =
 tif ((!(decide (i=j)))) (
 tif ((decide (j<i))) (
 a0b (b0s n data (IntKind.wrap .i64 (m-i)) m j cmp) fun r0 =>
 b0u n f (r0,(m,(cmp,((IntKind.wrap .i64 (i-j)),(j,())))))) (
 a0b (b0s n data (IntKind.wrap .i64 (m-i)) (IntKind.wrap .i64 ((IntKind.wrap .i64 (m+j))-i)) i cmp) fun r1 =>
 b0u n f (r1,(m,(cmp,(i,((IntKind.wrap .i64 (j-i)),()))))))) (
 some (.inl (data,(m,(cmp,(i,())))))):=by kernel_rfl
theorem w1c (n:Nat) (n_:Int) (each:Int):q0d (n+1) n_ each =
 a0b (o0p n a0d (n_,(each,(0,())))) fun r0 =>
 b0d (fun y1 =>
 some y1.1) (fun z2 =>
 some z2) r0:=by kernel_rfl
theorem t0s (n f:Nat) (n_:Int) (each:Int) (k:Int):o0p n (f+1) (n_,each,k,()) =
 tif ((decide ((0:Int)<n_))) (
 o0p n f ((IntKind.wrap .i64 (n_-each)),(each,((IntKind.wrap .i64 (k+1)),())))) (
 some (.inl (k,()))):=by kernel_rfl
theorem g1g (n:Nat) (a:(List a0x)) (b:(List a0x)):t0q (n+1) a b =
 tif ((!(decide ((((List.length a):Nat):Int)=(((List.length b):Nat):Int))))) (
 some false) (
 a0b (j0l n a0d (a,(b,((((List.length a):Nat):Int),(0,()))))) fun r0 =>
 b0d (fun y1 =>
 some true) (fun z2 =>
 some z2) r0):=by kernel_rfl
theorem o0o (n f:Nat) (a:(List a0x)) (b:(List a0x)) (s12:Int) (s13:Int):j0l n (f+1) (a,b,s12,s13,()) =
 tif ((decide (s13<s12))) (
 a0b (at? a s13) fun r0 =>
 a0b (at? b s13) fun r1 =>
 tif ((!((decide (r0.1=r1.1))&&((decide (r0.2.1=r1.2.1))&&((decide (r0.2.2.1=r1.2.2.1))&&(r0.2.2.2==r1.2.2.2)))))) (
 some (.inr false)) (
 j0l n f (a,(b,(s12,((IntKind.wrap .i64 (s13+1)),())))))) (
 some (.inl ())):=by kernel_rfl
theorem b2a (n:Nat) (a:(List a0f)) (b:(List a0f)):z0l (n+1) a b =
 tif ((!(decide ((((List.length a):Nat):Int)=(((List.length b):Nat):Int))))) (
 some false) (
 a0b (r0s n a0d (a,(b,((((List.length a):Nat):Int),(0,()))))) fun r0 =>
 b0d (fun y1 =>
 some true) (fun z2 =>
 some z2) r0):=by kernel_rfl
theorem w0p (n f:Nat) (a:(List a0f)) (b:(List a0f)) (s12:Int) (s13:Int):r0s n (f+1) (a,b,s12,s13,()) =
 tif ((decide (s13<s12))) (
 a0b (at? a s13) fun r0 =>
 a0b (at? b s13) fun r1 =>
 tif ((!((decide (r0.1=r1.1))&&((decide (r0.2.1=r1.2.1))&&((decide (r0.2.2.1.1=r1.2.2.1.1))&&((decide (r0.2.2.1.2.1=r1.2.2.1.2.1))&&((decide (r0.2.2.1.2.2.1=r1.2.2.1.2.2.1))&&((r0.2.2.1.2.2.2==r1.2.2.1.2.2.2)&&((decide (r0.2.2.2.1.1=r1.2.2.2.1.1))&&((decide (r0.2.2.2.1.2.1=r1.2.2.2.1.2.1))&&((decide (r0.2.2.2.1.2.2.1=r1.2.2.2.1.2.2.1))&&((r0.2.2.2.1.2.2.2==r1.2.2.2.1.2.2.2)&&((decide (r0.2.2.2.2.1.1=r1.2.2.2.2.1.1))&&((decide (r0.2.2.2.2.1.2=r1.2.2.2.2.1.2))&&((decide (r0.2.2.2.2.2.1=r1.2.2.2.2.2.1))&&((decide (r0.2.2.2.2.2.2.1=r1.2.2.2.2.2.2.1))&&(decide (r0.2.2.2.2.2.2.2=r1.2.2.2.2.2.2.2)))))))))))))))))) (
 some (.inr false)) (
 r0s n f (a,(b,(s12,((IntKind.wrap .i64 (s13+1)),())))))) (
 some (.inl ())):=by kernel_rfl
theorem b1k (n:Nat) (s1:(List a0x)) (s2:(List a0x)):p0g (n+1) s1 s2 =
 tif ((!(decide ((((List.length s1):Nat):Int)=(((List.length s2):Nat):Int))))) (
 some false) (
 a0b (h0d n a0d (s1,(s2,((((List.length s1):Nat):Int),(0,()))))) fun r0 =>
 b0d (fun y1 =>
 some true) (fun z2 =>
 some z2) r0):=by kernel_rfl
theorem l0z (n f:Nat) (s1:(List a0x)) (s2:(List a0x)) (s12:Int) (s13:Int):h0d n (f+1) (s1,s2,s12,s13,()) =
 tif ((decide (s13<s12))) (
 a0b (at? s1 s13) fun r0 =>
 a0b (at? s2 s13) fun r1 =>
 tif ((!((decide (r0.1=r1.1))&&((decide (r0.2.1=r1.2.1))&&((decide (r0.2.2.1=r1.2.2.1))&&(r0.2.2.2==r1.2.2.2)))))) (
 some (.inr false)) (
 h0d n f (s1,(s2,(s12,((IntKind.wrap .i64 (s13+1)),())))))) (
 some (.inl ())):=by kernel_rfl
theorem w0a (n:Nat) (s:(List Int)) (f_:((Int×Unit)→Option Bool)):p0v (n+1) s f_ =
 a0b (d0j n a0d (s,(f_,((((List.length s):Nat):Int),(0,()))))) fun r0 =>
 b0d (fun y1 =>
 some ((-1):Int)) (fun z2 =>
 some z2) r0:=by kernel_rfl
theorem j0f (n f:Nat) (s:(List Int)) (f_:((Int×Unit)→Option Bool)) (s7:Int) (s8:Int):d0j n (f+1) (s,f_,s7,s8,()) =
 tif ((decide (s8<s7))) (
 a0b (at? s s8) fun r0 =>
 a0b (f_ (r0,())) fun r1 =>
 tif (r1) (
 some (.inr s8)) (
 d0j n f (s,(f_,(s7,((IntKind.wrap .i64 (s8+1)),())))))) (
 some (.inl ())):=by kernel_rfl
theorem q1v (n:Nat) (a:(Int×Int)):v0i (n+1) a =
 tif ((!(decide (a.1=0)))) (
 a0b (e0h n a.1) fun r0 =>
 some (IntKind.wrap .i64 ((64:Int)+r0))) (
 a0b (e0h n a.2) fun r1 =>
 some r1):=by kernel_rfl
theorem p1z (n:Nat) (l:(List a0f)) (w:Int):p0q (n+1) l w =
 tif ((decide ((((List.length l):Nat):Int)=0))) (
 some (2:Int)) (
 tif ((decide ((4096:Int)<(((List.length l):Nat):Int)))) (
 some (2:Int)) (
 tif ((decide (w<1))) (
 some (2:Int)) (
 tif ((decide ((1099511627776:Int)<w))) (
 some (2:Int)) (
 a0b (g0z n a0d (l,(w,(l,((((List.length l):Nat):Int),(0,())))))) fun r0 =>
 b0d (fun y1 =>
 some (0:Int)) (fun z2 =>
 some z2) r0)))):=by kernel_rfl
theorem s0m (n f:Nat) (l:(List a0f)) (w:Int) (s23:(List a0f)) (s24:Int) (s25:Int):g0z n (f+1) (l,w,s23,s24,s25,()) =
 tif ((decide (s25<s24))) (
 a0b (at? s23 s25) fun r0 =>
 a0b (s0v n r0) fun r1 =>
 tif ((!r1)) (
 a0b (p1r n r0.1 (((List.length l):Nat):Int)) fun r2 =>
 tif ((!(decide (r2=s25)))) (
 some (.inr (2:Int))) (
 a0b (y0j n r0.2 w r0.1) fun r3 =>
 tif ((!r3)) (
 some (.inr (2:Int))) (
 g0z n f (l,(w,(s23,(s24,((IntKind.wrap .i64 (s25+1)),())))))))) (
 g0z n f (l,(w,(s23,(s24,((IntKind.wrap .i64 (s25+1)),()))))))) (
 some (.inl ())):=by kernel_rfl
theorem r0n (n:Nat) (s:(List a0f)) (f_:((a0f×Unit)→Option Bool)):h0u (n+1) s f_ =
 a0b (k0f n s f_) fun r0 =>
 some (decide ((0:Int)≤r0)):=by kernel_rfl
theorem y0z (n:Nat) (s:a0f) (p1:Int):n0q (n+1) s p1 =
 tif ((decide ((0:Int)<s.2.1))) (
 some (decide (p1≤s.1))) (
 some false):=by kernel_rfl
theorem t0a (n:Nat) (s:(List a0f)) (del:((a0f×Unit)→Option Bool)):j0i (n+1) s del =
 a0b (k0f n s del) fun r0 =>
 tif ((decide (r0=((-1):Int)))) (
 some s) (
 a0b (d0f n a0d (s,(del,(r0,((IntKind.wrap .i64 (r0+1)),()))))) fun r1 =>
 b0d (fun y2 =>
 tif ((decide ((0:Int)≤y2.2.1))) (
 tif ((decide ((Int.toNat y2.2.1)≤(List.length y2.1)))) (
 tif ((decide (((Int.toNat y2.2.1)+((List.length y2.1)-(Int.toNat y2.2.1)))≤(List.length y2.1)))) (
 tif (((decide ((0:Int)≤y2.2.1))&&(decide (y2.2.1≤(((List.length (Go.Flat.putRow y2.1 (Int.toNat y2.2.1) (List.replicate ((List.length y2.1)-(Int.toNat y2.2.1)) (0,(0,((0,(0,(0,false))),((0,(0,(0,false))),((0,0),(0,(0,0)))))))))):Nat):Int))))) (
 some (List.take ((Int.toNat y2.2.1)-0) (Go.Flat.putRow y2.1 (Int.toNat y2.2.1) (List.replicate ((List.length y2.1)-(Int.toNat y2.2.1)) (0,(0,((0,(0,(0,false))),((0,(0,(0,false))),((0,0),(0,(0,0))))))))))) (
 none)) (
 none)) (
 none)) (
 none)) (fun z3 =>
 some z3) r1):=by kernel_rfl
theorem i0s (n f:Nat) (s:(List a0f)) (del:((a0f×Unit)→Option Bool)) (i:Int) (j:Int):d0f n (f+1) (s,del,i,j,()) =
 tif ((decide (j<(((List.length s):Nat):Int)))) (
 a0b (at? s j) fun r0 =>
 a0b ((s)[(Int.toNat j)]?) fun r1 =>
 a0b (del (r1,())) fun r2 =>
 tif ((!r2)) (
 a0b (at? s i) fun r3 =>
 a0b ((s)[(Int.toNat i)]?) fun r4 =>
 d0f n f ((List.set s (Int.toNat i) r1),(del,((IntKind.wrap .i64 (i+1)),((IntKind.wrap .i64 (j+1)),()))))) (
 d0f n f (s,(del,(i,((IntKind.wrap .i64 (j+1)),())))))) (
 some (.inl (s,(i,())))):=by kernel_rfl
theorem u1p (n:Nat) (s:a0f):s0v (n+1) s =
 some ((decide (s.1=0))&&((decide (s.2.1=0))&&((decide (s.2.2.1.1=0))&&((decide (s.2.2.1.2.1=0))&&((decide (s.2.2.1.2.2.1=0))&&((s.2.2.1.2.2.2==false)&&((decide (s.2.2.2.1.1=0))&&((decide (s.2.2.2.1.2.1=0))&&((decide (s.2.2.2.1.2.2.1=0))&&((s.2.2.2.1.2.2.2==false)&&((decide (s.2.2.2.2.1.1=0))&&((decide (s.2.2.2.2.1.2=0))&&((decide (s.2.2.2.2.2.1=0))&&((decide (s.2.2.2.2.2.2.1=0))&&(decide (s.2.2.2.2.2.2.2=0)))))))))))))))):=by kernel_rfl
theorem p0e (n:Nat) (x:(List a0f)) (cmp:((a0f×(a0f×Unit))→Option Int)):g0e (n+1) x cmp =
 a0b (k2r n x (((List.length x):Nat):Int) cmp) fun r0 =>
 some r0:=by kernel_rfl
theorem q1a (n:Nat) (a:a0f) (b:a0f):v0a (n+1) a b =
 a0b (k0m n a.1 b.1) fun r0 =>
 some r0:=by kernel_rfl
theorem w0b (n:Nat) (x:Int) (y:Int):k0m (n+1) x y =
 a0b (o0h n x) fun r0 =>
 a0b (o0h n y) fun r1 =>
 tif (r0) (
 tif (r1) (
 some (0:Int)) (
 some ((-1):Int))) (
 tif (r1) (
 some (1:Int)) (
 tif ((decide (x<y))) (
 some ((-1):Int)) (
 tif ((decide (y<x))) (
 some (1:Int)) (
 some (0:Int))))):=by kernel_rfl
theorem s0z (n:Nat) (s:(List (List UInt8×List UInt8))) (f_:(((List UInt8×List UInt8)×Unit)→Option Bool)):o0k (n+1) s f_ =
 a0b (d0e n a0d (s,(f_,((((List.length s):Nat):Int),(0,()))))) fun r0 =>
 b0d (fun y1 =>
 some ((-1):Int)) (fun z2 =>
 some z2) r0:=by kernel_rfl
theorem i0r (n f:Nat) (s:(List (List UInt8×List UInt8))) (f_:(((List UInt8×List UInt8)×Unit)→Option Bool)) (s7:Int) (s8:Int):d0e n (f+1) (s,f_,s7,s8,()) =
 tif ((decide (s8<s7))) (
 a0b (at? s s8) fun r0 =>
 a0b (f_ (r0,())) fun r1 =>
 tif (r1) (
 some (.inr s8)) (
 d0e n f (s,(f_,(s7,((IntKind.wrap .i64 (s8+1)),())))))) (
 some (.inl ())):=by kernel_rfl
theorem e1f (n:Nat) (x:(List UInt8×List UInt8)) (p1:List UInt8):s0g (n+1) x p1 =
 some (x.1==p1):=by kernel_rfl
theorem p0r (n:Nat) (s:List UInt8) (prefix_:List UInt8):stringslite_HasPrefix (n+1) s prefix_ =
 tif ((decide ((((List.length prefix_):Nat):Int)≤(((List.length s):Nat):Int)))) (
 tif (((decide ((0:Int)≤(((List.length prefix_):Nat):Int)))&&(decide ((((List.length prefix_):Nat):Int)≤(((List.length s):Nat):Int))))) (
 some ((List.drop 0 (List.take (Int.toNat (((List.length prefix_):Nat):Int)) s))==prefix_)) (
 none)) (
 some false):=by kernel_rfl
theorem j0d (n:Nat) (data:(List a0a)) (a:Int) (b:Int) (n_:Int) (cmp:((a0a×(a0a×Unit))→Option Int)):b0s (n+1) data a b n_ cmp =
 a0b (c0e n a0d (data,(a,(b,(n_,(0,())))))) fun r0 =>
 b0d (fun y1 =>
 some y1.1) (fun z2 =>
 some z2) r0:=by kernel_rfl
theorem d0v (n f:Nat) (data:(List a0a)) (a:Int) (b:Int) (n_:Int) (i:Int):c0e n (f+1) (data,a,b,n_,i,()) =
 tif ((decide (i<n_))) (
 a0b (at? data (IntKind.wrap .i64 (b+i))) fun r0 =>
 a0b ((data)[(Int.toNat (IntKind.wrap .i64 (b+i)))]?) fun r1 =>
 a0b (at? data (IntKind.wrap .i64 (a+i))) fun r2 =>
 a0b ((data)[(Int.toNat (IntKind.wrap .i64 (a+i)))]?) fun r3 =>
 a0b (at? data (IntKind.wrap .i64 (a+i))) fun r4 =>
 a0b ((data)[(Int.toNat (IntKind.wrap .i64 (a+i)))]?) fun r5 =>
 a0b (at? (List.set data (Int.toNat (IntKind.wrap .i64 (a+i))) r1) (IntKind.wrap .i64 (b+i))) fun r6 =>
 a0b (((List.set data (Int.toNat (IntKind.wrap .i64 (a+i))) r1))[(Int.toNat (IntKind.wrap .i64 (b+i)))]?) fun r7 =>
 c0e n f ((List.set (List.set data (Int.toNat (IntKind.wrap .i64 (a+i))) r1) (Int.toNat (IntKind.wrap .i64 (b+i))) r3),(a,(b,(n_,((IntKind.wrap .i64 (i+1)),())))))) (
 some (.inl (data,()))):=by kernel_rfl
theorem a1p (n:Nat) (x:Int):e0h (n+1) x =
 tif ((decide ((4294967296:Int)≤x))) (
 tif ((decide ((65536:Int)≤(shrI .u64 x (32:Int))))) (
 tif ((decide ((256:Int)≤(shrI .u64 (shrI .u64 x (32:Int)) (16:Int))))) (
 a0b (at? h0h (IntKind.wrap .u8 (shrI .u64 (shrI .u64 (shrI .u64 x (32:Int)) (16:Int)) (8:Int)))) fun r0 =>
 some (IntKind.wrap .i64 ((56:Int)+(IntKind.wrap .i64 (((UInt8.toNat r0):Nat):Int))))) (
 a0b (at? h0h (IntKind.wrap .u8 (shrI .u64 (shrI .u64 x (32:Int)) (16:Int)))) fun r1 =>
 some (IntKind.wrap .i64 ((48:Int)+(IntKind.wrap .i64 (((UInt8.toNat r1):Nat):Int)))))) (
 tif ((decide ((256:Int)≤(shrI .u64 x (32:Int))))) (
 a0b (at? h0h (IntKind.wrap .u8 (shrI .u64 (shrI .u64 x (32:Int)) (8:Int)))) fun r2 =>
 some (IntKind.wrap .i64 ((40:Int)+(IntKind.wrap .i64 (((UInt8.toNat r2):Nat):Int))))) (
 a0b (at? h0h (IntKind.wrap .u8 (shrI .u64 x (32:Int)))) fun r3 =>
 some (IntKind.wrap .i64 ((32:Int)+(IntKind.wrap .i64 (((UInt8.toNat r3):Nat):Int))))))) (
 tif ((decide ((65536:Int)≤x))) (
 tif ((decide ((256:Int)≤(shrI .u64 x (16:Int))))) (
 a0b (at? h0h (IntKind.wrap .u8 (shrI .u64 (shrI .u64 x (16:Int)) (8:Int)))) fun r4 =>
 some (IntKind.wrap .i64 ((24:Int)+(IntKind.wrap .i64 (((UInt8.toNat r4):Nat):Int))))) (
 a0b (at? h0h (IntKind.wrap .u8 (shrI .u64 x (16:Int)))) fun r5 =>
 some (IntKind.wrap .i64 ((16:Int)+(IntKind.wrap .i64 (((UInt8.toNat r5):Nat):Int)))))) (
 tif ((decide ((256:Int)≤x))) (
 a0b (at? h0h (IntKind.wrap .u8 (shrI .u64 x (8:Int)))) fun r6 =>
 some (IntKind.wrap .i64 ((8:Int)+(IntKind.wrap .i64 (((UInt8.toNat r6):Nat):Int))))) (
 a0b (at? h0h (IntKind.wrap .u8 x)) fun r7 =>
 some (IntKind.wrap .i64 ((0:Int)+(IntKind.wrap .i64 (((UInt8.toNat r7):Nat):Int))))))):=by kernel_rfl
theorem l0w (n:Nat) (s:(List a0f)) (f_:((a0f×Unit)→Option Bool)):k0f (n+1) s f_ =
 a0b (d0k n a0d (s,(f_,((((List.length s):Nat):Int),(0,()))))) fun r0 =>
 b0d (fun y1 =>
 some ((-1):Int)) (fun z2 =>
 some z2) r0:=by kernel_rfl
theorem j0g (n f:Nat) (s:(List a0f)) (f_:((a0f×Unit)→Option Bool)) (s7:Int) (s8:Int):d0k n (f+1) (s,f_,s7,s8,()) =
 tif ((decide (s8<s7))) (
 a0b (at? s s8) fun r0 =>
 a0b (f_ (r0,())) fun r1 =>
 tif (r1) (
 some (.inr s8)) (
 d0k n f (s,(f_,(s7,((IntKind.wrap .i64 (s8+1)),())))))) (
 some (.inl ())):=by kernel_rfl
theorem g2p (n:Nat) (data:(List a0f)) (n_:Int) (cmp:((a0f×(a0f×Unit))→Option Int)):k2r (n+1) data n_ cmp =
 a0b (p0t n a0d (data,(n_,(cmp,(20,(0,(20,()))))))) fun r0 =>
 b0d (fun y1 =>
 a0b (q1k n y1.1 y1.2.2.2.2.1 y1.2.1 y1.2.2.1) fun r2 =>
 a0b (m0n n a0d (r2,(y1.2.1,(y1.2.2.1,(y1.2.2.2.1,()))))) fun r3 =>
 b0d (fun y4 =>
 some y4.1) (fun z5 =>
 some z5) r3) (fun z6 =>
 some z6) r0:=by kernel_rfl
theorem y0w (n f:Nat) (data:(List a0f)) (n_:Int) (cmp:((a0f×(a0f×Unit))→Option Int)) (blockSize:Int) (a:Int) (b:Int):p0t n (f+1) (data,n_,cmp,blockSize,a,b,()) =
 tif ((decide (b≤n_))) (
 a0b (q1k n data a b cmp) fun r0 =>
 p0t n f (r0,(n_,(cmp,(blockSize,(b,((IntKind.wrap .i64 (b+blockSize)),()))))))) (
 some (.inl (data,(n_,(cmp,(blockSize,(a,()))))))):=by kernel_rfl
theorem y0v (n f:Nat) (data:(List a0f)) (n_:Int) (cmp:((a0f×(a0f×Unit))→Option Int)) (blockSize:Int):m0n n (f+1) (data,n_,cmp,blockSize,()) =
 tif ((decide (blockSize<n_))) (
 a0b (v0f n a0d (data,(n_,(cmp,(blockSize,(0,((IntKind.wrap .i64 ((2:Int)*blockSize)),()))))))) fun r0 =>
 b0d (fun y1 =>
 tif ((decide ((IntKind.wrap .i64 (y1.2.2.2.2.1+y1.2.2.2.1))<y1.2.1))) (
 a0b (b0v n y1.1 y1.2.2.2.2.1 (IntKind.wrap .i64 (y1.2.2.2.2.1+y1.2.2.2.1)) y1.2.1 y1.2.2.1) fun r2 =>
 m0n n f (r2,(y1.2.1,(y1.2.2.1,((IntKind.wrap .i64 (y1.2.2.2.1*2)),()))))) (
 m0n n f (y1.1,(y1.2.1,(y1.2.2.1,((IntKind.wrap .i64 (y1.2.2.2.1*2)),())))))) (fun z3 =>
 some (.inr z3)) r0) (
 some (.inl (data,()))):=by kernel_rfl
theorem y0u (n f:Nat) (data:(List a0f)) (n_:Int) (cmp:((a0f×(a0f×Unit))→Option Int)) (blockSize:Int) (a:Int) (b:Int):v0f n (f+1) (data,n_,cmp,blockSize,a,b,()) =
 tif ((decide (b≤n_))) (
 a0b (b0v n data a (IntKind.wrap .i64 (a+blockSize)) b cmp) fun r0 =>
 v0f n f (r0,(n_,(cmp,(blockSize,(b,((IntKind.wrap .i64 (b+(IntKind.wrap .i64 ((2:Int)*blockSize)))),()))))))) (
 some (.inl (data,(n_,(cmp,(blockSize,(a,()))))))):=by kernel_rfl
theorem o0w (n:Nat) (x:Int):o0h (n+1) x =
 some (!(decide (x=x))):=by kernel_rfl
theorem g2r (n:Nat) (data:(List a0f)) (a:Int) (b:Int) (cmp:((a0f×(a0f×Unit))→Option Int)):q1k (n+1) data a b cmp =
 a0b (v0h n a0d (data,(a,(b,(cmp,((IntKind.wrap .i64 (a+1)),())))))) fun r0 =>
 b0d (fun y1 =>
 some y1.1) (fun z2 =>
 some z2) r0:=by kernel_rfl
theorem y0y (n f:Nat) (data:(List a0f)) (a:Int) (b:Int) (cmp:((a0f×(a0f×Unit))→Option Int)) (i:Int):v0h n (f+1) (data,a,b,cmp,i,()) =
 tif ((decide (i<b))) (
 a0b (v0g n a0d (data,(a,(b,(cmp,(i,(i,()))))))) fun r0 =>
 b0d (fun y1 =>
 v0h n f (y1.1,(y1.2.1,(y1.2.2.1,(y1.2.2.2.1,((IntKind.wrap .i64 (y1.2.2.2.2.1+1)),())))))) (fun z2 =>
 some (.inr z2)) r0) (
 some (.inl (data,()))):=by kernel_rfl
theorem y0x (n f:Nat) (data:(List a0f)) (a:Int) (b:Int) (cmp:((a0f×(a0f×Unit))→Option Int)) (i:Int) (j:Int):v0g n (f+1) (data,a,b,cmp,i,j,()) =
 tif ((decide (a<j))) (
 a0b (at? data j) fun r0 =>
 a0b ((data)[(Int.toNat j)]?) fun r1 =>
 a0b (at? data (IntKind.wrap .i64 (j-1))) fun r2 =>
 a0b ((data)[(Int.toNat (IntKind.wrap .i64 (j-1)))]?) fun r3 =>
 a0b (cmp (r1,(r3,()))) fun r4 =>
 tif ((decide (r4<0))) (
 a0b (at? data (IntKind.wrap .i64 (j-1))) fun r5 =>
 a0b ((data)[(Int.toNat (IntKind.wrap .i64 (j-1)))]?) fun r6 =>
 a0b (at? data j) fun r7 =>
 a0b ((data)[(Int.toNat j)]?) fun r8 =>
 a0b (at? data j) fun r9 =>
 a0b ((data)[(Int.toNat j)]?) fun r10 =>
 a0b (at? (List.set data (Int.toNat j) r6) (IntKind.wrap .i64 (j-1))) fun r11 =>
 a0b (((List.set data (Int.toNat j) r6))[(Int.toNat (IntKind.wrap .i64 (j-1)))]?) fun r12 =>
 v0g n f ((List.set (List.set data (Int.toNat j) r6) (Int.toNat (IntKind.wrap .i64 (j-1))) r8),(a,(b,(cmp,(i,((IntKind.wrap .i64 (j-1)),()))))))) (
 some (.inl (data,(a,(b,(cmp,(i,())))))))) (
 some (.inl (data,(a,(b,(cmp,(i,()))))))):=by kernel_rfl
theorem g2n (n:Nat) (data:(List a0f)) (a:Int) (m:Int) (b:Int) (cmp:((a0f×(a0f×Unit))→Option Int)):b0v (n+1) data a m b cmp =
 tif ((decide ((IntKind.wrap .i64 (m-a))=1))) (
 a0b (p0s n a0d (data,(a,(cmp,(m,(b,())))))) fun r0 =>
 b0d (fun y1 =>
 a0b (v0d n a0d (y1.1,(y1.2.2.1,(y1.2.1,())))) fun r2 =>
 b0d (fun y3 =>
 some y3.1) (fun z4 =>
 some z4) r2) (fun z5 =>
 some z5) r0) (
 tif ((decide ((IntKind.wrap .i64 (b-m))=1))) (
 a0b (n0o n a0d (data,(m,(cmp,(a,(m,())))))) fun r6 =>
 b0d (fun y7 =>
 a0b (r0k n a0d (y7.1,(y7.2.2.1,(y7.2.1,())))) fun r8 =>
 b0d (fun y9 =>
 some y9.1) (fun z10 =>
 some z10) r8) (fun z11 =>
 some z11) r6) (
 tif ((decide ((IntKind.wrap .i64 (shrI .u64 (IntKind.wrap .u64 (IntKind.wrap .i64 (a+b))) (1:Int)))<m))) (
 a0b (k0e n a0d (data,(a,(m,(b,(cmp,((IntKind.wrap .i64 (shrI .u64 (IntKind.wrap .u64 (IntKind.wrap .i64 (a+b))) (1:Int))),((IntKind.wrap .i64 ((IntKind.wrap .i64 (shrI .u64 (IntKind.wrap .u64 (IntKind.wrap .i64 (a+b))) (1:Int)))+m)),((IntKind.wrap .i64 ((IntKind.wrap .i64 ((IntKind.wrap .i64 (shrI .u64 (IntKind.wrap .u64 (IntKind.wrap .i64 (a+b))) (1:Int)))+m))-b)),((IntKind.wrap .i64 (shrI .u64 (IntKind.wrap .u64 (IntKind.wrap .i64 (a+b))) (1:Int))),((IntKind.wrap .i64 ((IntKind.wrap .i64 ((IntKind.wrap .i64 (shrI .u64 (IntKind.wrap .u64 (IntKind.wrap .i64 (a+b))) (1:Int)))+m))-1)),()))))))))))) fun r12 =>
 b0d (fun y13 =>
 tif ((decide (y13.2.2.2.2.2.2.2.1<y13.2.2.1))) (
 tif ((decide (y13.2.2.1<(IntKind.wrap .i64 (y13.2.2.2.2.2.2.1-y13.2.2.2.2.2.2.2.1))))) (
 a0b (f1t n y13.1 y13.2.2.2.2.2.2.2.1 y13.2.2.1 (IntKind.wrap .i64 (y13.2.2.2.2.2.2.1-y13.2.2.2.2.2.2.2.1)) y13.2.2.2.2.1) fun r14 =>
 tif ((decide (y13.2.1<y13.2.2.2.2.2.2.2.1))) (
 tif ((decide (y13.2.2.2.2.2.2.2.1<y13.2.2.2.2.2.1))) (
 a0b (b0v n r14 y13.2.1 y13.2.2.2.2.2.2.2.1 y13.2.2.2.2.2.1 y13.2.2.2.2.1) fun r15 =>
 tif ((decide (y13.2.2.2.2.2.1<(IntKind.wrap .i64 (y13.2.2.2.2.2.2.1-y13.2.2.2.2.2.2.2.1))))) (
 tif ((decide ((IntKind.wrap .i64 (y13.2.2.2.2.2.2.1-y13.2.2.2.2.2.2.2.1))<y13.2.2.2.1))) (
 a0b (b0v n r15 y13.2.2.2.2.2.1 (IntKind.wrap .i64 (y13.2.2.2.2.2.2.1-y13.2.2.2.2.2.2.2.1)) y13.2.2.2.1 y13.2.2.2.2.1) fun r16 =>
 some r16) (
 some r15)) (
 some r15)) (
 tif ((decide (y13.2.2.2.2.2.1<(IntKind.wrap .i64 (y13.2.2.2.2.2.2.1-y13.2.2.2.2.2.2.2.1))))) (
 tif ((decide ((IntKind.wrap .i64 (y13.2.2.2.2.2.2.1-y13.2.2.2.2.2.2.2.1))<y13.2.2.2.1))) (
 a0b (b0v n r14 y13.2.2.2.2.2.1 (IntKind.wrap .i64 (y13.2.2.2.2.2.2.1-y13.2.2.2.2.2.2.2.1)) y13.2.2.2.1 y13.2.2.2.2.1) fun r17 =>
 some r17) (
 some r14)) (
 some r14))) (
 tif ((decide (y13.2.2.2.2.2.1<(IntKind.wrap .i64 (y13.2.2.2.2.2.2.1-y13.2.2.2.2.2.2.2.1))))) (
 tif ((decide ((IntKind.wrap .i64 (y13.2.2.2.2.2.2.1-y13.2.2.2.2.2.2.2.1))<y13.2.2.2.1))) (
 a0b (b0v n r14 y13.2.2.2.2.2.1 (IntKind.wrap .i64 (y13.2.2.2.2.2.2.1-y13.2.2.2.2.2.2.2.1)) y13.2.2.2.1 y13.2.2.2.2.1) fun r18 =>
 some r18) (
 some r14)) (
 some r14))) (
 tif ((decide (y13.2.1<y13.2.2.2.2.2.2.2.1))) (
 tif ((decide (y13.2.2.2.2.2.2.2.1<y13.2.2.2.2.2.1))) (
 a0b (b0v n y13.1 y13.2.1 y13.2.2.2.2.2.2.2.1 y13.2.2.2.2.2.1 y13.2.2.2.2.1) fun r19 =>
 tif ((decide (y13.2.2.2.2.2.1<(IntKind.wrap .i64 (y13.2.2.2.2.2.2.1-y13.2.2.2.2.2.2.2.1))))) (
 tif ((decide ((IntKind.wrap .i64 (y13.2.2.2.2.2.2.1-y13.2.2.2.2.2.2.2.1))<y13.2.2.2.1))) (
 a0b (b0v n r19 y13.2.2.2.2.2.1 (IntKind.wrap .i64 (y13.2.2.2.2.2.2.1-y13.2.2.2.2.2.2.2.1)) y13.2.2.2.1 y13.2.2.2.2.1) fun r20 =>
 some r20) (
 some r19)) (
 some r19)) (
 tif ((decide (y13.2.2.2.2.2.1<(IntKind.wrap .i64 (y13.2.2.2.2.2.2.1-y13.2.2.2.2.2.2.2.1))))) (
 tif ((decide ((IntKind.wrap .i64 (y13.2.2.2.2.2.2.1-y13.2.2.2.2.2.2.2.1))<y13.2.2.2.1))) (
 a0b (b0v n y13.1 y13.2.2.2.2.2.1 (IntKind.wrap .i64 (y13.2.2.2.2.2.2.1-y13.2.2.2.2.2.2.2.1)) y13.2.2.2.1 y13.2.2.2.2.1) fun r21 =>
 some r21) (
 some y13.1)) (
 some y13.1))) (
 tif ((decide (y13.2.2.2.2.2.1<(IntKind.wrap .i64 (y13.2.2.2.2.2.2.1-y13.2.2.2.2.2.2.2.1))))) (
 tif ((decide ((IntKind.wrap .i64 (y13.2.2.2.2.2.2.1-y13.2.2.2.2.2.2.2.1))<y13.2.2.2.1))) (
 a0b (b0v n y13.1 y13.2.2.2.2.2.1 (IntKind.wrap .i64 (y13.2.2.2.2.2.2.1-y13.2.2.2.2.2.2.2.1)) y13.2.2.2.1 y13.2.2.2.2.1) fun r22 =>
 some r22) (
 some y13.1)) (
 some y13.1)))) (
 tif ((decide (y13.2.1<y13.2.2.2.2.2.2.2.1))) (
 tif ((decide (y13.2.2.2.2.2.2.2.1<y13.2.2.2.2.2.1))) (
 a0b (b0v n y13.1 y13.2.1 y13.2.2.2.2.2.2.2.1 y13.2.2.2.2.2.1 y13.2.2.2.2.1) fun r23 =>
 tif ((decide (y13.2.2.2.2.2.1<(IntKind.wrap .i64 (y13.2.2.2.2.2.2.1-y13.2.2.2.2.2.2.2.1))))) (
 tif ((decide ((IntKind.wrap .i64 (y13.2.2.2.2.2.2.1-y13.2.2.2.2.2.2.2.1))<y13.2.2.2.1))) (
 a0b (b0v n r23 y13.2.2.2.2.2.1 (IntKind.wrap .i64 (y13.2.2.2.2.2.2.1-y13.2.2.2.2.2.2.2.1)) y13.2.2.2.1 y13.2.2.2.2.1) fun r24 =>
 some r24) (
 some r23)) (
 some r23)) (
 tif ((decide (y13.2.2.2.2.2.1<(IntKind.wrap .i64 (y13.2.2.2.2.2.2.1-y13.2.2.2.2.2.2.2.1))))) (
 tif ((decide ((IntKind.wrap .i64 (y13.2.2.2.2.2.2.1-y13.2.2.2.2.2.2.2.1))<y13.2.2.2.1))) (
 a0b (b0v n y13.1 y13.2.2.2.2.2.1 (IntKind.wrap .i64 (y13.2.2.2.2.2.2.1-y13.2.2.2.2.2.2.2.1)) y13.2.2.2.1 y13.2.2.2.2.1) fun r25 =>
 some r25) (
 some y13.1)) (
 some y13.1))) (
 tif ((decide (y13.2.2.2.2.2.1<(IntKind.wrap .i64 (y13.2.2.2.2.2.2.1-y13.2.2.2.2.2.2.2.1))))) (
 tif ((decide ((IntKind.wrap .i64 (y13.2.2.2.2.2.2.1-y13.2.2.2.2.2.2.2.1))<y13.2.2.2.1))) (
 a0b (b0v n y13.1 y13.2.2.2.2.2.1 (IntKind.wrap .i64 (y13.2.2.2.2.2.2.1-y13.2.2.2.2.2.2.2.1)) y13.2.2.2.1 y13.2.2.2.2.1) fun r26 =>
 some r26) (
 some y13.1)) (
 some y13.1)))) (fun z27 =>
 some z27) r12) (
 a0b (k0e n a0d (data,(a,(m,(b,(cmp,((IntKind.wrap .i64 (shrI .u64 (IntKind.wrap .u64 (IntKind.wrap .i64 (a+b))) (1:Int))),((IntKind.wrap .i64 ((IntKind.wrap .i64 (shrI .u64 (IntKind.wrap .u64 (IntKind.wrap .i64 (a+b))) (1:Int)))+m)),(a,(m,((IntKind.wrap .i64 ((IntKind.wrap .i64 ((IntKind.wrap .i64 (shrI .u64 (IntKind.wrap .u64 (IntKind.wrap .i64 (a+b))) (1:Int)))+m))-1)),()))))))))))) fun r28 =>
 b0d (fun y29 =>
 tif ((decide (y29.2.2.2.2.2.2.2.1<y29.2.2.1))) (
 tif ((decide (y29.2.2.1<(IntKind.wrap .i64 (y29.2.2.2.2.2.2.1-y29.2.2.2.2.2.2.2.1))))) (
 a0b (f1t n y29.1 y29.2.2.2.2.2.2.2.1 y29.2.2.1 (IntKind.wrap .i64 (y29.2.2.2.2.2.2.1-y29.2.2.2.2.2.2.2.1)) y29.2.2.2.2.1) fun r30 =>
 tif ((decide (y29.2.1<y29.2.2.2.2.2.2.2.1))) (
 tif ((decide (y29.2.2.2.2.2.2.2.1<y29.2.2.2.2.2.1))) (
 a0b (b0v n r30 y29.2.1 y29.2.2.2.2.2.2.2.1 y29.2.2.2.2.2.1 y29.2.2.2.2.1) fun r31 =>
 tif ((decide (y29.2.2.2.2.2.1<(IntKind.wrap .i64 (y29.2.2.2.2.2.2.1-y29.2.2.2.2.2.2.2.1))))) (
 tif ((decide ((IntKind.wrap .i64 (y29.2.2.2.2.2.2.1-y29.2.2.2.2.2.2.2.1))<y29.2.2.2.1))) (
 a0b (b0v n r31 y29.2.2.2.2.2.1 (IntKind.wrap .i64 (y29.2.2.2.2.2.2.1-y29.2.2.2.2.2.2.2.1)) y29.2.2.2.1 y29.2.2.2.2.1) fun r32 =>
 some r32) (
 some r31)) (
 some r31)) (
 tif ((decide (y29.2.2.2.2.2.1<(IntKind.wrap .i64 (y29.2.2.2.2.2.2.1-y29.2.2.2.2.2.2.2.1))))) (
 tif ((decide ((IntKind.wrap .i64 (y29.2.2.2.2.2.2.1-y29.2.2.2.2.2.2.2.1))<y29.2.2.2.1))) (
 a0b (b0v n r30 y29.2.2.2.2.2.1 (IntKind.wrap .i64 (y29.2.2.2.2.2.2.1-y29.2.2.2.2.2.2.2.1)) y29.2.2.2.1 y29.2.2.2.2.1) fun r33 =>
 some r33) (
 some r30)) (
 some r30))) (
 tif ((decide (y29.2.2.2.2.2.1<(IntKind.wrap .i64 (y29.2.2.2.2.2.2.1-y29.2.2.2.2.2.2.2.1))))) (
 tif ((decide ((IntKind.wrap .i64 (y29.2.2.2.2.2.2.1-y29.2.2.2.2.2.2.2.1))<y29.2.2.2.1))) (
 a0b (b0v n r30 y29.2.2.2.2.2.1 (IntKind.wrap .i64 (y29.2.2.2.2.2.2.1-y29.2.2.2.2.2.2.2.1)) y29.2.2.2.1 y29.2.2.2.2.1) fun r34 =>
 some r34) (
 some r30)) (
 some r30))) (
 tif ((decide (y29.2.1<y29.2.2.2.2.2.2.2.1))) (
 tif ((decide (y29.2.2.2.2.2.2.2.1<y29.2.2.2.2.2.1))) (
 a0b (b0v n y29.1 y29.2.1 y29.2.2.2.2.2.2.2.1 y29.2.2.2.2.2.1 y29.2.2.2.2.1) fun r35 =>
 tif ((decide (y29.2.2.2.2.2.1<(IntKind.wrap .i64 (y29.2.2.2.2.2.2.1-y29.2.2.2.2.2.2.2.1))))) (
 tif ((decide ((IntKind.wrap .i64 (y29.2.2.2.2.2.2.1-y29.2.2.2.2.2.2.2.1))<y29.2.2.2.1))) (
 a0b (b0v n r35 y29.2.2.2.2.2.1 (IntKind.wrap .i64 (y29.2.2.2.2.2.2.1-y29.2.2.2.2.2.2.2.1)) y29.2.2.2.1 y29.2.2.2.2.1) fun r36 =>
 some r36) (
 some r35)) (
 some r35)) (
 tif ((decide (y29.2.2.2.2.2.1<(IntKind.wrap .i64 (y29.2.2.2.2.2.2.1-y29.2.2.2.2.2.2.2.1))))) (
 tif ((decide ((IntKind.wrap .i64 (y29.2.2.2.2.2.2.1-y29.2.2.2.2.2.2.2.1))<y29.2.2.2.1))) (
 a0b (b0v n y29.1 y29.2.2.2.2.2.1 (IntKind.wrap .i64 (y29.2.2.2.2.2.2.1-y29.2.2.2.2.2.2.2.1)) y29.2.2.2.1 y29.2.2.2.2.1) fun r37 =>
 some r37) (
 some y29.1)) (
 some y29.1))) (
 tif ((decide (y29.2.2.2.2.2.1<(IntKind.wrap .i64 (y29.2.2.2.2.2.2.1-y29.2.2.2.2.2.2.2.1))))) (
 tif ((decide ((IntKind.wrap .i64 (y29.2.2.2.2.2.2.1-y29.2.2.2.2.2.2.2.1))<y29.2.2.2.1))) (
 a0b (b0v n y29.1 y29.2.2.2.2.2.1 (IntKind.wrap .i64 (y29.2.2.2.2.2.2.1-y29.2.2.2.2.2.2.2.1)) y29.2.2.2.1 y29.2.2.2.2.1) fun r38 =>
 some r38) (
 some y29.1)) (
 some y29.1)))) (
 tif ((decide (y29.2.1<y29.2.2.2.2.2.2.2.1))) (
 tif ((decide (y29.2.2.2.2.2.2.2.1<y29.2.2.2.2.2.1))) (
 a0b (b0v n y29.1 y29.2.1 y29.2.2.2.2.2.2.2.1 y29.2.2.2.2.2.1 y29.2.2.2.2.1) fun r39 =>
 tif ((decide (y29.2.2.2.2.2.1<(IntKind.wrap .i64 (y29.2.2.2.2.2.2.1-y29.2.2.2.2.2.2.2.1))))) (
 tif ((decide ((IntKind.wrap .i64 (y29.2.2.2.2.2.2.1-y29.2.2.2.2.2.2.2.1))<y29.2.2.2.1))) (
 a0b (b0v n r39 y29.2.2.2.2.2.1 (IntKind.wrap .i64 (y29.2.2.2.2.2.2.1-y29.2.2.2.2.2.2.2.1)) y29.2.2.2.1 y29.2.2.2.2.1) fun r40 =>
 some r40) (
 some r39)) (
 some r39)) (
 tif ((decide (y29.2.2.2.2.2.1<(IntKind.wrap .i64 (y29.2.2.2.2.2.2.1-y29.2.2.2.2.2.2.2.1))))) (
 tif ((decide ((IntKind.wrap .i64 (y29.2.2.2.2.2.2.1-y29.2.2.2.2.2.2.2.1))<y29.2.2.2.1))) (
 a0b (b0v n y29.1 y29.2.2.2.2.2.1 (IntKind.wrap .i64 (y29.2.2.2.2.2.2.1-y29.2.2.2.2.2.2.2.1)) y29.2.2.2.1 y29.2.2.2.2.1) fun r41 =>
 some r41) (
 some y29.1)) (
 some y29.1))) (
 tif ((decide (y29.2.2.2.2.2.1<(IntKind.wrap .i64 (y29.2.2.2.2.2.2.1-y29.2.2.2.2.2.2.2.1))))) (
 tif ((decide ((IntKind.wrap .i64 (y29.2.2.2.2.2.2.1-y29.2.2.2.2.2.2.2.1))<y29.2.2.2.1))) (
 a0b (b0v n y29.1 y29.2.2.2.2.2.1 (IntKind.wrap .i64 (y29.2.2.2.2.2.2.1-y29.2.2.2.2.2.2.2.1)) y29.2.2.2.1 y29.2.2.2.2.1) fun r42 =>
 some r42) (
 some y29.1)) (
 some y29.1)))) (fun z43 =>
 some z43) r28))):=by kernel_rfl
theorem y0s (n f:Nat) (data:(List a0f)) (a:Int) (cmp:((a0f×(a0f×Unit))→Option Int)) (i:Int) (j:Int):p0s n (f+1) (data,a,cmp,i,j,()) =
 tif ((decide (i<j))) (
 a0b (at? data (IntKind.wrap .i64 (shrI .u64 (IntKind.wrap .u64 (IntKind.wrap .i64 (i+j))) (1:Int)))) fun r0 =>
 a0b ((data)[(Int.toNat (IntKind.wrap .i64 (shrI .u64 (IntKind.wrap .u64 (IntKind.wrap .i64 (i+j))) (1:Int))))]?) fun r1 =>
 a0b (at? data a) fun r2 =>
 a0b ((data)[(Int.toNat a)]?) fun r3 =>
 a0b (cmp (r1,(r3,()))) fun r4 =>
 tif ((decide (r4<0))) (
 p0s n f (data,(a,(cmp,((IntKind.wrap .i64 ((IntKind.wrap .i64 (shrI .u64 (IntKind.wrap .u64 (IntKind.wrap .i64 (i+j))) (1:Int)))+1)),(j,())))))) (
 p0s n f (data,(a,(cmp,(i,((IntKind.wrap .i64 (shrI .u64 (IntKind.wrap .u64 (IntKind.wrap .i64 (i+j))) (1:Int))),()))))))) (
 some (.inl (data,(a,(i,()))))):=by kernel_rfl
theorem y0r (n f:Nat) (data:(List a0f)) (i:Int) (k:Int):v0d n (f+1) (data,i,k,()) =
 tif ((decide (k<(IntKind.wrap .i64 (i-1))))) (
 a0b (at? data (IntKind.wrap .i64 (k+1))) fun r0 =>
 a0b ((data)[(Int.toNat (IntKind.wrap .i64 (k+1)))]?) fun r1 =>
 a0b (at? data k) fun r2 =>
 a0b ((data)[(Int.toNat k)]?) fun r3 =>
 a0b (at? data k) fun r4 =>
 a0b ((data)[(Int.toNat k)]?) fun r5 =>
 a0b (at? (List.set data (Int.toNat k) r1) (IntKind.wrap .i64 (k+1))) fun r6 =>
 a0b (((List.set data (Int.toNat k) r1))[(Int.toNat (IntKind.wrap .i64 (k+1)))]?) fun r7 =>
 v0d n f ((List.set (List.set data (Int.toNat k) r1) (Int.toNat (IntKind.wrap .i64 (k+1))) r3),(i,((IntKind.wrap .i64 (k+1)),())))) (
 some (.inl (data,()))):=by kernel_rfl
theorem w0i (n f:Nat) (data:(List a0f)) (m:Int) (cmp:((a0f×(a0f×Unit))→Option Int)) (i_:Int) (j_:Int):n0o n (f+1) (data,m,cmp,i_,j_,()) =
 tif ((decide (i_<j_))) (
 a0b (at? data m) fun r0 =>
 a0b ((data)[(Int.toNat m)]?) fun r1 =>
 a0b (at? data (IntKind.wrap .i64 (shrI .u64 (IntKind.wrap .u64 (IntKind.wrap .i64 (i_+j_))) (1:Int)))) fun r2 =>
 a0b ((data)[(Int.toNat (IntKind.wrap .i64 (shrI .u64 (IntKind.wrap .u64 (IntKind.wrap .i64 (i_+j_))) (1:Int))))]?) fun r3 =>
 a0b (cmp (r1,(r3,()))) fun r4 =>
 tif ((!(decide (r4<0)))) (
 n0o n f (data,(m,(cmp,((IntKind.wrap .i64 ((IntKind.wrap .i64 (shrI .u64 (IntKind.wrap .u64 (IntKind.wrap .i64 (i_+j_))) (1:Int)))+1)),(j_,())))))) (
 n0o n f (data,(m,(cmp,(i_,((IntKind.wrap .i64 (shrI .u64 (IntKind.wrap .u64 (IntKind.wrap .i64 (i_+j_))) (1:Int))),()))))))) (
 some (.inl (data,(m,(i_,()))))):=by kernel_rfl
theorem w0h (n f:Nat) (data:(List a0f)) (i_:Int) (k_:Int):r0k n (f+1) (data,i_,k_,()) =
 tif ((decide (i_<k_))) (
 a0b (at? data (IntKind.wrap .i64 (k_-1))) fun r0 =>
 a0b ((data)[(Int.toNat (IntKind.wrap .i64 (k_-1)))]?) fun r1 =>
 a0b (at? data k_) fun r2 =>
 a0b ((data)[(Int.toNat k_)]?) fun r3 =>
 a0b (at? data k_) fun r4 =>
 a0b ((data)[(Int.toNat k_)]?) fun r5 =>
 a0b (at? (List.set data (Int.toNat k_) r1) (IntKind.wrap .i64 (k_-1))) fun r6 =>
 a0b (((List.set data (Int.toNat k_) r1))[(Int.toNat (IntKind.wrap .i64 (k_-1)))]?) fun r7 =>
 r0k n f ((List.set (List.set data (Int.toNat k_) r1) (Int.toNat (IntKind.wrap .i64 (k_-1))) r3),(i_,((IntKind.wrap .i64 (k_-1)),())))) (
 some (.inl (data,()))):=by kernel_rfl
theorem w0g (n f:Nat) (data:(List a0f)) (a:Int) (m:Int) (b:Int) (cmp:((a0f×(a0f×Unit))→Option Int)) (mid:Int) (n_:Int) (start:Int) (r:Int) (p:Int):k0e n (f+1) (data,a,m,b,cmp,mid,n_,start,r,p,()) =
 tif ((decide (start<r))) (
 a0b (at? data (IntKind.wrap .i64 (p-(IntKind.wrap .i64 (shrI .u64 (IntKind.wrap .u64 (IntKind.wrap .i64 (start+r))) (1:Int)))))) fun r0 =>
 a0b ((data)[(Int.toNat (IntKind.wrap .i64 (p-(IntKind.wrap .i64 (shrI .u64 (IntKind.wrap .u64 (IntKind.wrap .i64 (start+r))) (1:Int))))))]?) fun r1 =>
 a0b (at? data (IntKind.wrap .i64 (shrI .u64 (IntKind.wrap .u64 (IntKind.wrap .i64 (start+r))) (1:Int)))) fun r2 =>
 a0b ((data)[(Int.toNat (IntKind.wrap .i64 (shrI .u64 (IntKind.wrap .u64 (IntKind.wrap .i64 (start+r))) (1:Int))))]?) fun r3 =>
 a0b (cmp (r1,(r3,()))) fun r4 =>
 tif ((!(decide (r4<0)))) (
 k0e n f (data,(a,(m,(b,(cmp,(mid,(n_,((IntKind.wrap .i64 ((IntKind.wrap .i64 (shrI .u64 (IntKind.wrap .u64 (IntKind.wrap .i64 (start+r))) (1:Int)))+1)),(r,(p,()))))))))))) (
 k0e n f (data,(a,(m,(b,(cmp,(mid,(n_,(start,((IntKind.wrap .i64 (shrI .u64 (IntKind.wrap .u64 (IntKind.wrap .i64 (start+r))) (1:Int))),(p,())))))))))))) (
 some (.inl (data,(a,(m,(b,(cmp,(mid,(n_,(start,())))))))))):=by kernel_rfl
theorem g2q (n:Nat) (data:(List a0f)) (a:Int) (m:Int) (b:Int) (cmp:((a0f×(a0f×Unit))→Option Int)):f1t (n+1) data a m b cmp =
 a0b (p0u n a0d (data,(m,(cmp,((IntKind.wrap .i64 (m-a)),((IntKind.wrap .i64 (b-m)),())))))) fun r0 =>
 b0d (fun y1 =>
 a0b (f1s n y1.1 (IntKind.wrap .i64 (y1.2.1-y1.2.2.2.1)) y1.2.1 y1.2.2.2.1 y1.2.2.1) fun r2 =>
 some r2) (fun z3 =>
 some z3) r0:=by kernel_rfl
theorem q1j (n f:Nat) (data:(List a0f)) (m:Int) (cmp:((a0f×(a0f×Unit))→Option Int)) (i:Int) (j:Int):p0u n (f+1) (data,m,cmp,i,j,()) =
 tif ((!(decide (i=j)))) (
 tif ((decide (j<i))) (
 a0b (f1s n data (IntKind.wrap .i64 (m-i)) m j cmp) fun r0 =>
 p0u n f (r0,(m,(cmp,((IntKind.wrap .i64 (i-j)),(j,())))))) (
 a0b (f1s n data (IntKind.wrap .i64 (m-i)) (IntKind.wrap .i64 ((IntKind.wrap .i64 (m+j))-i)) i cmp) fun r1 =>
 p0u n f (r1,(m,(cmp,(i,((IntKind.wrap .i64 (j-i)),()))))))) (
 some (.inl (data,(m,(cmp,(i,())))))):=by kernel_rfl
theorem g2o (n:Nat) (data:(List a0f)) (a:Int) (b:Int) (n_:Int) (cmp:((a0f×(a0f×Unit))→Option Int)):f1s (n+1) data a b n_ cmp =
 a0b (v0e n a0d (data,(a,(b,(n_,(0,())))))) fun r0 =>
 b0d (fun y1 =>
 some y1.1) (fun z2 =>
 some z2) r0:=by kernel_rfl
theorem y0t (n f:Nat) (data:(List a0f)) (a:Int) (b:Int) (n_:Int) (i:Int):v0e n (f+1) (data,a,b,n_,i,()) =
 tif ((decide (i<n_))) (
 a0b (at? data (IntKind.wrap .i64 (b+i))) fun r0 =>
 a0b ((data)[(Int.toNat (IntKind.wrap .i64 (b+i)))]?) fun r1 =>
 a0b (at? data (IntKind.wrap .i64 (a+i))) fun r2 =>
 a0b ((data)[(Int.toNat (IntKind.wrap .i64 (a+i)))]?) fun r3 =>
 a0b (at? data (IntKind.wrap .i64 (a+i))) fun r4 =>
 a0b ((data)[(Int.toNat (IntKind.wrap .i64 (a+i)))]?) fun r5 =>
 a0b (at? (List.set data (Int.toNat (IntKind.wrap .i64 (a+i))) r1) (IntKind.wrap .i64 (b+i))) fun r6 =>
 a0b (((List.set data (Int.toNat (IntKind.wrap .i64 (a+i))) r1))[(Int.toNat (IntKind.wrap .i64 (b+i)))]?) fun r7 =>
 v0e n f ((List.set (List.set data (Int.toNat (IntKind.wrap .i64 (a+i))) r1) (Int.toNat (IntKind.wrap .i64 (b+i))) r3),(a,(b,(n_,((IntKind.wrap .i64 (i+1)),())))))) (
 some (.inl (data,()))):=by kernel_rfl
end Go.Proofs.YtgkpkajaepphjaaGreatDoor
