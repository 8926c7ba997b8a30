/- Trees, printed by program. -/
import Derived.Test.YtgkpkajaepphjaaGreatDoorTr0
import Derived.KernelRfl
set_option linter.unusedVariables false
namespace Go.Proofs.YtgkpkajaepphjaaGreatDoor
open Go.Flat
theorem t0v (n:Nat) (s:(List Int)) (f_:((Int×Unit)→Option Bool)):p0t (n+1) s f_ =
 a0b (d0h n a0c (s,(f_,((((List.length s):Nat):Int),(0,()))))) fun r0 =>
 b0s (fun y1 =>
 some ((-1):Int)) (fun z2 =>
 some z2) r0:=by kernel_rfl
theorem i0d (n f:Nat) (s:(List Int)) (f_:((Int×Unit)→Option Bool)) (s7:Int) (s8:Int):d0h n (f+1) (s,f_,s7,s8,()) =
 tif ((decide (s8<s7))) (
 a0b (at? s s8) fun r0 =>
 a0b (f_ (r0,())) fun r1 =>
 tif (r1) (
 some (.inr s8)) (
 d0h n f (s,(f_,(s7,((IntKind.wrap .i64 (s8+1)),())))))) (
 some (.inl ())):=by kernel_rfl
theorem a2u (n:Nat) (t:Int) (now:Int) (w:Int) (n_:Int):b1d (n+1) t now w n_ =
 a0b (a2t n t w) fun r0 =>
 a0b (e0l n now w n_) fun r1 =>
 tif ((decide (r0.2=0))) (
 tif ((decide (r1.2=0))) (
 some (decide (r0.1<r1.1))) (
 some false)) (
 some false):=by kernel_rfl
theorem wi_Of_eq (n:Nat) (t:Int) (w:Int):a2t (n+1) t w =
 a0b (o0k n t (0:Int) (35184372088831:Int)) fun r0 =>
 tif ((!r0)) (
 some (0,1)) (
 a0b (l1p n w) fun r1 =>
 tif ((!r1)) (
 some (0,1)) (
 tif ((decide (w=0))) (
 none) (
 some ((IntKind.wrap .i64 (Int.tdiv t w)),0)))):=by kernel_rfl
theorem p1t (n:Nat) (n_:Int) (low:Int) (high:Int):p1u (n+1) n_ low high =
 tif ((decide (low≤n_))) (
 some (decide (n_≤high))) (
 some false):=by kernel_rfl
theorem z0w (n:Nat) (s:(List a0d)):o0v (n+1) s =
 tif ((decide ((List.length s)=0))) (
 both (
 some []) (
 tif ((decide (((0+(List.length s))*120)≤140737488355328))) (
 some ([]++s)) (
 none))) (
 tif ((decide (((0+(List.length s))*120)≤140737488355328))) (
 some ([]++s)) (
 none)):=by kernel_rfl
theorem z0s (n:Nat) (x:Int):j0i (n+1) x =
 tif ((decide (x=0))) (
 some (64:Int)) (
 a0b (at? ((0:Int)::((1:Int)::((56:Int)::((2:Int)::((57:Int)::((49:Int)::((28:Int)::((3:Int)::((61:Int)::((58:Int)::((42:Int)::((50:Int)::((38:Int)::((29:Int)::((17:Int)::((4:Int)::((62:Int)::((47:Int)::((59:Int)::((36:Int)::((45:Int)::((43:Int)::((51:Int)::((22:Int)::((53:Int)::((39:Int)::((33:Int)::((30:Int)::((24:Int)::((18:Int)::((12:Int)::((5:Int)::((63:Int)::((55:Int)::((48:Int)::((27:Int)::((60:Int)::((41:Int)::((37:Int)::((16:Int)::((46:Int)::((35:Int)::((44:Int)::((21:Int)::((52:Int)::((32:Int)::((23:Int)::((11:Int)::((54:Int)::((26:Int)::((40:Int)::((15:Int)::((34:Int)::((20:Int)::((31:Int)::((10:Int)::((25:Int)::((14:Int)::((19:Int)::((9:Int)::((13:Int)::((8:Int)::((7:Int)::((6:Int)::[])))))))))))))))))))))))))))))))))))))))))))))))))))))))))))))))) (shrI .u64 (IntKind.wrap .u64 ((285870213051353865:Int)*(andI .u64 x (IntKind.wrap .u64 ((0:Int)-x))))) (58:Int))) fun r0 =>
 some (IntKind.wrap .i64 r0)):=by kernel_rfl
theorem u1l (n:Nat) (a:(Int×Int)) (b:(Int×Int)):l1o (n+1) a b =
 tif ((((decide ((0:Int)≤a.2))&&(decide ((0:Int)≤b.2)))&&((decide (b.2<18446744073709551616))&&true))) (
 tif ((((decide ((0:Int)≤a.1))&&(decide ((0:Int)≤b.1)))&&((decide (b.1<18446744073709551616))&&((decide ((0:Int)≤(if a.2<(b.2+0) then (1:Int) else (0:Int))))&&(decide ((if a.2<(b.2+0) then (1:Int) else (0:Int))≤1)))))) (
 a0b (p0z n ((((a.1-b.1)-(if a.2<(b.2+0) then (1:Int) else (0:Int))) % (18446744073709551616:Int)),(((a.2-b.2)-0) % (18446744073709551616:Int))) (if a.1<(b.1+(if a.2<(b.2+0) then (1:Int) else (0:Int))) then (1:Int) else (0:Int))) fun r0 =>
 some r0) (
 none)) (
 none):=by kernel_rfl
theorem r1k (n:Nat) (c:b0b):c1j (n+1) c =
 a0b (n0m n c.1 (16:Int)) fun r0 =>
 a0b (n0m n c.2.2.1.1 (4:Int)) fun r1 =>
 a0b (n0m n c.2.2.1.2.1 (4:Int)) fun r2 =>
 a0b (n0m n c.2.2.1.2.2 (4:Int)) fun r3 =>
 some (IntKind.wrap .i64 ((IntKind.wrap .i64 ((IntKind.wrap .i64 ((IntKind.wrap .i64 ((1:Int)+r0))+r1))+r2))+r3)):=by kernel_rfl
theorem w1e (n:Nat) (a:(Int×(Int×(List a0u)))) (b:(Int×(Int×(List a0u)))):y1m (n+1) a b =
 tif ((decide (a.1=b.1))) (
 tif ((decide (a.2.1=b.2.1))) (
 a0b (q0u n a.2.2 b.2.2) fun r0 =>
 some r0) (
 some false)) (
 some false):=by kernel_rfl
theorem v1x (n:Nat) (a:((List a0d)×((List a0d)×(List a0d)))) (b:((List a0d)×((List a0d)×(List a0d)))):y1k (n+1) a b =
 a0b (v0q n a.1 b.1) fun r0 =>
 tif ((!r0)) (
 some false) (
 a0b (v0q n a.2.1 b.2.1) fun r1 =>
 tif ((!r1)) (
 some false) (
 a0b (v0q n a.2.2 b.2.2) fun r2 =>
 tif ((!r2)) (
 some false) (
 some true))):=by kernel_rfl
theorem r1t (n:Nat) (e:a0u):l0l (n+1) e =
 tif ((decide (e.1<0))) (
 some (2:Int)) (
 tif ((decide ((35184372088832:Int)≤e.1))) (
 some (2:Int)) (
 tif ((decide (e.2.2.1<0))) (
 some (2:Int)) (
 tif ((decide (e.1<e.2.2.1))) (
 some (2:Int)) (
 tif (e.2.2.2) (
 tif ((!(decide (e.2.1=0)))) (
 some (2:Int)) (
 tif ((!(decide (e.2.2.1=0)))) (
 some (2:Int)) (
 some (0:Int)))) (
 some (0:Int)))))):=by kernel_rfl
theorem r1i (n:Nat) (l:(List a0d)) (w:Int):q0t (n+1) l w =
 tif ((decide ((((List.length l):Nat):Int)<1))) (
 some (2:Int)) (
 tif ((decide ((4096:Int)<(((List.length l):Nat):Int)))) (
 some (2:Int)) (
 tif ((decide (w<1))) (
 some (2:Int)) (
 tif ((decide ((1099511627776:Int)<w))) (
 some (2:Int)) (
 a0b (g0v n a0c (l,(w,(l,((((List.length l):Nat):Int),(0,())))))) fun r0 =>
 b0s (fun y1 =>
 some (0:Int)) (fun z2 =>
 some z2) r0)))):=by kernel_rfl
theorem q0s (n f:Nat) (l:(List a0d)) (w:Int) (s23:(List a0d)) (s24:Int) (s25:Int):g0v n (f+1) (l,w,s23,s24,s25,()) =
 tif ((decide (s25<s24))) (
 a0b (at? s23 s25) fun r0 =>
 tif (((decide (r0.1=0))&&((decide (r0.2.1=0))&&((decide (r0.2.2.1.1=0))&&((decide (r0.2.2.1.2.1=0))&&((decide (r0.2.2.1.2.2.1=0))&&((r0.2.2.1.2.2.2==false)&&((decide (r0.2.2.2.1.1=0))&&((decide (r0.2.2.2.1.2.1=0))&&((decide (r0.2.2.2.1.2.2.1=0))&&((r0.2.2.2.1.2.2.2==false)&&((decide (r0.2.2.2.2.1.1=0))&&((decide (r0.2.2.2.2.1.2=0))&&((decide (r0.2.2.2.2.2.1=0))&&((decide (r0.2.2.2.2.2.2.1=0))&&(decide (r0.2.2.2.2.2.2.2=0))))))))))))))))) (
 g0v n f (l,(w,(s23,(s24,((IntKind.wrap .i64 (s25+1)),())))))) (
 a0b (a1o n r0.2 w r0.1) fun r1 =>
 tif ((!r1)) (
 some (.inr (2:Int))) (
 a0b (a1p n r0.1 (((List.length l):Nat):Int)) fun r2 =>
 tif ((!(decide (r2=s25)))) (
 some (.inr (2:Int))) (
 g0v n f (l,(w,(s23,(s24,((IntKind.wrap .i64 (s25+1)),()))))))))) (
 some (.inl ())):=by kernel_rfl
theorem f2v (n:Nat) (t:Int) (w:Int):k1v (n+1) t w =
 tif ((decide (t<0))) (
 some (0,1)) (
 tif ((decide ((35184372088832:Int)≤t))) (
 some (0,1)) (
 a0b (r1p n w) fun r0 =>
 tif ((!r0)) (
 some (0,1)) (
 tif ((decide (w=0))) (
 none) (
 tif ((decide (w=0))) (
 none) (
 some ((IntKind.wrap .i64 (Int.tdiv (IntKind.wrap .i64 (t-(Int.tmod t w))) w)),0)))))):=by kernel_rfl
theorem w1i (n:Nat) (t:Int) (now:Int) (w:Int) (n_:Int):v0u (n+1) t now w n_ =
 a0b (k1v n t w) fun r0 =>
 a0b (x0w n now w n_) fun r1 =>
 tif ((decide (r0.2=0))) (
 tif ((decide (r1.2=0))) (
 some (decide (r0.1<r1.1))) (
 some false)) (
 some false):=by kernel_rfl
theorem p1d (n:Nat) (n_:Int) (by_:Int):k0p (n+1) n_ by_ =
 tif ((decide (by_=0))) (
 none) (
 some (IntKind.wrap .i64 (Int.tdiv (IntKind.wrap .i64 ((IntKind.wrap .i64 (n_+by_))-1)) by_))):=by kernel_rfl
theorem v1n (n:Nat) (a:(Int×(Int×(List a0u)))) (b:(Int×(Int×(List a0u)))):y1i (n+1) a b =
 tif ((decide (a.1=b.1))) (
 tif ((decide (a.2.1=b.2.1))) (
 a0b (m0p n a.2.2 b.2.2) fun r0 =>
 some r0) (
 some false)) (
 some false):=by kernel_rfl
theorem z0v (n:Nat) (s1:(List a0d)) (s2:(List a0d)):h0g (n+1) s1 s2 =
 tif ((!(decide ((((List.length s1):Nat):Int)=(((List.length s2):Nat):Int))))) (
 some false) (
 a0b (g0g n a0c (s1,(s2,((((List.length s1):Nat):Int),(0,()))))) fun r0 =>
 b0s (fun y1 =>
 some true) (fun z2 =>
 some z2) r0):=by kernel_rfl
theorem l0e (n f:Nat) (s1:(List a0d)) (s2:(List a0d)) (s12:Int) (s13:Int):g0g n (f+1) (s1,s2,s12,s13,()) =
 tif ((decide (s13<s12))) (
 a0b (at? s1 s13) fun r0 =>
 a0b (at? s2 s13) fun r1 =>
 tif ((!((decide (r0.1=r1.1))&&((decide (r0.2.1=r1.2.1))&&((decide (r0.2.2.1.1=r1.2.2.1.1))&&((decide (r0.2.2.1.2.1=r1.2.2.1.2.1))&&((decide (r0.2.2.1.2.2.1=r1.2.2.1.2.2.1))&&((r0.2.2.1.2.2.2==r1.2.2.1.2.2.2)&&((decide (r0.2.2.2.1.1=r1.2.2.2.1.1))&&((decide (r0.2.2.2.1.2.1=r1.2.2.2.1.2.1))&&((decide (r0.2.2.2.1.2.2.1=r1.2.2.2.1.2.2.1))&&((r0.2.2.2.1.2.2.2==r1.2.2.2.1.2.2.2)&&((decide (r0.2.2.2.2.1.1=r1.2.2.2.2.1.1))&&((decide (r0.2.2.2.2.1.2=r1.2.2.2.2.1.2))&&((decide (r0.2.2.2.2.2.1=r1.2.2.2.2.2.1))&&((decide (r0.2.2.2.2.2.2.1=r1.2.2.2.2.2.2.1))&&(decide (r0.2.2.2.2.2.2.2=r1.2.2.2.2.2.2.2)))))))))))))))))) (
 some (.inr false)) (
 g0g n f (s1,(s2,(s12,((IntKind.wrap .i64 (s13+1)),())))))) (
 some (.inl ())):=by kernel_rfl
theorem j1m (n:Nat) (c:Int):p0k (n+1) c =
 tif ((decide ((48:Int)≤c))) (
 some (decide (c≤57))) (
 some false):=by kernel_rfl
theorem o0t (n:Nat) (s:(List Int)) (f_:((Int×Unit)→Option Bool)):f0w (n+1) s f_ =
 a0b (n0j n s f_) fun r0 =>
 some (decide ((0:Int)≤r0)):=by kernel_rfl
theorem d1t (n:Nat) (c:Int):r0n (n+1) c =
 a0b (y0j n c) fun r0 =>
 some (!r0):=by kernel_rfl
theorem o1j (n:Nat) (c:Int):y0j (n+1) c =
 a0b (p0k n c) fun r0 =>
 tif (r0) (
 some true) (
 tif ((decide (c=95))) (
 some true) (
 tif ((decide ((97:Int)≤(orI .u8 c (32:Int))))) (
 some (decide ((orI .u8 c (32:Int))≤122))) (
 some false))):=by kernel_rfl
theorem f1h (n:Nat) (a:(Int×Int)) (d:(Int×Int)):o0z (n+1) a d =
 a0b (s0i n a) fun r0 =>
 a0b (s0i n d) fun r1 =>
 a0b (g0d n a0c (a,(d,((0,0),((0,0),((IntKind.wrap .i64 (r0-r1)),())))))) fun r2 =>
 b0s (fun y3 =>
 some y3.2.1) (fun z4 =>
 some z4) r2:=by kernel_rfl
theorem i0l (n f:Nat) (a_:(Int×Int)) (d_:(Int×Int)) (s4:(Int×Int)) (q:(Int×Int)) (by_:Int):g0d n (f+1) (a_,d_,s4,q,by_,()) =
 tif ((decide ((0:Int)≤by_))) (
 a0b (v0o n d_ by_) fun r0 =>
 a0b (k0v n a_ r0) fun r1 =>
 tif (r1) (
 g0d n f (a_,(d_,(s4,(q,((IntKind.wrap .i64 (by_-1)),())))))) (
 a0b (i0m n a_ r0) fun r2 =>
 a0b (k0u n (1:Int)) fun r3 =>
 a0b (v0o n r3 by_) fun r4 =>
 g0d n f (r2,(d_,(s4,(((orI .u64 q.1 r4.1),(orI .u64 q.2 r4.2)),((IntKind.wrap .i64 (by_-1)),()))))))) (
 some (.inl (s4,(q,())))):=by kernel_rfl
theorem t1l (n:Nat) (c:b0b) (s:((List a0d)×((List a0d)×(List a0d)))):d1y (n+1) c s =
 a0b (i0q n c) fun r0 =>
 tif ((!(decide (r0=0)))) (
 some (none,r0)) (
 tif ((!(decide ((((List.length s.1):Nat):Int)=c.2.2.1.1)))) (
 some (none,2)) (
 a0b (n0e n s.1 c.2.1.1) fun r1 =>
 tif ((!(decide (r1=0)))) (
 some (none,2)) (
 tif ((!(decide ((((List.length s.2.1):Nat):Int)=c.2.2.1.2.1)))) (
 some (none,2)) (
 a0b (n0e n s.2.1 c.2.1.2.1) fun r2 =>
 tif ((!(decide (r2=0)))) (
 some (none,2)) (
 tif ((!(decide ((((List.length s.2.2):Nat):Int)=c.2.2.1.2.2)))) (
 some (none,2)) (
 a0b (n0e n s.2.2 c.2.1.2.2) fun r3 =>
 tif ((!(decide (r3=0)))) (
 some (none,2)) (
 some ((some (c,s)),0)))))))):=by kernel_rfl
theorem m1o (n:Nat) (l:(List a0u)):x0p (n+1) l =
 a0b (f0q n a0c (l,(l,((((List.length l):Nat):Int),(0,()))))) fun r0 =>
 b0s (fun y1 =>
 some true) (fun z2 =>
 some z2) r0:=by kernel_rfl
theorem p0u (n f:Nat) (l:(List a0u)) (s5:(List a0u)) (s6:Int) (s7:Int):f0q n (f+1) (l,s5,s6,s7,()) =
 tif ((decide (s7<s6))) (
 a0b (at? s5 s7) fun r0 =>
 a0b (d0k n r0) fun r1 =>
 tif ((!(decide (r1=0)))) (
 some (.inr false)) (
 tif ((decide ((0:Int)<s7))) (
 a0b (at? l (IntKind.wrap .i64 (s7-1))) fun r2 =>
 a0b (m0e n r2 r0) fun r3 =>
 tif ((!r3)) (
 some (.inr false)) (
 f0q n f (l,(s5,(s6,((IntKind.wrap .i64 (s7+1)),())))))) (
 f0q n f (l,(s5,(s6,((IntKind.wrap .i64 (s7+1)),()))))))) (
 some (.inl ())):=by kernel_rfl
theorem m1p (n:Nat) (r:(Int×(Int×(List a0u)))) (room:Int):k1u (n+1) r room =
 tif ((decide (r.1=0))) (
 some (decide (r.2.1=0))) (
 tif ((decide ((((List.length r.2.2):Nat):Int)=room))) (
 tif ((decide ((0:Int)≤r.2.1))) (
 a0b (at? r.2.2 (0:Int)) fun r0 =>
 some (decide (r.2.1<r0.1))) (
 some false)) (
 some false)):=by kernel_rfl
theorem z0x (n:Nat) (l:(List a0d)) (i:Int):d0q (n+1) l i =
 a0b (f0x n l (fun y0=>l0f n y0.1 i)) fun r1 =>
 some r1:=by kernel_rfl
theorem v1o (n:Nat) (r:(Int×(Int×(List a0u)))):m1q (n+1) r =
 tif ((decide ((((List.length r.2.2):Nat):Int)=0))) (
 some ((0,(0,(0,false))),3)) (
 a0b (at? r.2.2 (IntKind.wrap .i64 ((((List.length r.2.2):Nat):Int)-1))) fun r0 =>
 some (r0,0)):=by kernel_rfl
theorem q1f (n:Nat) (c:b0h) (w:Int) (i:Int):u0w (n+1) c w i =
 tif ((decide (c.1=0))) (
 some false) (
 a0b (o0e n c) fun r0 =>
 tif ((!(decide (r0=0)))) (
 some false) (
 a0b (f0c n a0c (w,(i,((c.2.1.1,c.2.2.1.1),(0,()))))) fun r1 =>
 b0s (fun y2 =>
 some true) (fun z3 =>
 some z3) r1)):=by kernel_rfl
theorem k0y (n f:Nat) (w:Int) (i:Int) (s25:(Int×Int)) (s26:Int):f0c n (f+1) (w,i,s25,s26,()) =
 tif ((decide (s26<2))) (
 tif ((decide (s26=0))) (
 a0b (a2t n s25.1 w) fun r0 =>
 tif ((!(decide (r0.2=0)))) (
 some (.inr false)) (
 tif ((!(decide (r0.1=i)))) (
 some (.inr false)) (
 f0c n f (w,(i,(s25,((IntKind.wrap .i64 (s26+1)),()))))))) (
 tif ((decide (s26=1))) (
 a0b (a2t n s25.2 w) fun r1 =>
 tif ((!(decide (r1.2=0)))) (
 some (.inr false)) (
 tif ((!(decide (r1.1=i)))) (
 some (.inr false)) (
 f0c n f (w,(i,(s25,((IntKind.wrap .i64 (s26+1)),()))))))) (
 none))) (
 some (.inl ())):=by kernel_rfl
theorem u1r (n:Nat) (l:(List a0d)):l1w (n+1) l =
 a0b (o0v n l) fun r0 =>
 a0b (h0m n r0 (fun y1=>q0d n y1.1)) fun r2 =>
 a0b (e0v n r2 (fun y3=>r0z n y3.1 y3.2.1)) fun r4 =>
 some r4:=by kernel_rfl
theorem w1h (n:Nat) (i:Int) (n_:Int):a1p (n+1) i n_ =
 tif ((decide (i<0))) (
 some (0:Int)) (
 tif ((decide (n_<1))) (
 some (0:Int)) (
 tif ((decide (n_=0))) (
 none) (
 some (Int.tmod i n_)))):=by kernel_rfl
theorem e1b (n:Nat) (p:a0u) (c:a0u):m0e (n+1) p c =
 a0b (l0q n (p::(c::[]))) fun r0 =>
 tif (r0) (
 some (decide (p.1<c.1))) (
 some false):=by kernel_rfl
theorem j1n (n:Nat) (l:(List (List UInt8×List UInt8))) (n_:List UInt8):u0f (n+1) l n_ =
 a0b (l0w n l (fun y0=>p0l n y0.1 n_)) fun r1 =>
 tif ((decide (r1<0))) (
 some []) (
 a0b (at? l r1) fun r2 =>
 some r2.2):=by kernel_rfl
theorem s0t (n:Nat) (s:List UInt8) (prefix_:List UInt8):strings_HasPrefix (n+1) s prefix_ =
 a0b (stringslite_HasPrefix n s prefix_) fun r0 =>
 some r0:=by kernel_rfl
theorem n1h (n:Nat) (now:Int) (w:Int) (n_:Int):x0w (n+1) now w n_ =
 a0b (k1v n now w) fun r0 =>
 tif ((!(decide (r0.2=0)))) (
 some (0,1)) (
 tif ((decide (n_<1))) (
 some (0,1)) (
 tif ((decide ((4096:Int)<n_))) (
 some (0,1)) (
 some ((if (IntKind.wrap .i64 ((IntKind.wrap .i64 (r0.1-n_))+1))<0 then (0:Int) else (IntKind.wrap .i64 ((IntKind.wrap .i64 (r0.1-n_))+1))),0)))):=by kernel_rfl
theorem r1l (n:Nat) (n_:Int) (each:Int):n0m (n+1) n_ each =
 a0b (m0b n a0c (n_,(each,(0,())))) fun r0 =>
 b0s (fun y1 =>
 some y1.1) (fun z2 =>
 some z2) r0:=by kernel_rfl
theorem q0w (n f:Nat) (n_:Int) (each:Int) (k:Int):m0b n (f+1) (n_,each,k,()) =
 tif ((decide ((0:Int)<n_))) (
 m0b n f ((IntKind.wrap .i64 (n_-each)),(each,((IntKind.wrap .i64 (k+1)),())))) (
 some (.inl (k,()))):=by kernel_rfl
theorem c1h (n:Nat) (a:(List a0u)) (b:(List a0u)):q0u (n+1) a b =
 tif ((!(decide ((((List.length a):Nat):Int)=(((List.length b):Nat):Int))))) (
 some false) (
 a0b (h0q n a0c (a,(b,((((List.length a):Nat):Int),(0,()))))) fun r0 =>
 b0s (fun y1 =>
 some true) (fun z2 =>
 some z2) r0):=by kernel_rfl
theorem m0a (n f:Nat) (a:(List a0u)) (b:(List a0u)) (s12:Int) (s13:Int):h0q n (f+1) (a,b,s12,s13,()) =
 tif ((decide (s13<s12))) (
 a0b (at? a s13) fun r0 =>
 a0b (at? b s13) fun r1 =>
 tif ((!((decide (r0.1=r1.1))&&((decide (r0.2.1=r1.2.1))&&((decide (r0.2.2.1=r1.2.2.1))&&(r0.2.2.2==r1.2.2.2)))))) (
 some (.inr false)) (
 h0q n f (a,(b,(s12,((IntKind.wrap .i64 (s13+1)),())))))) (
 some (.inl ())):=by kernel_rfl
theorem w1a (n:Nat) (a:(List a0d)) (b:(List a0d)):v0q (n+1) a b =
 tif ((!(decide ((((List.length a):Nat):Int)=(((List.length b):Nat):Int))))) (
 some false) (
 a0b (p0a n a0c (a,(b,((((List.length a):Nat):Int),(0,()))))) fun r0 =>
 b0s (fun y1 =>
 some true) (fun z2 =>
 some z2) r0):=by kernel_rfl
theorem t0g (n f:Nat) (a:(List a0d)) (b:(List a0d)) (s12:Int) (s13:Int):p0a n (f+1) (a,b,s12,s13,()) =
 tif ((decide (s13<s12))) (
 a0b (at? a s13) fun r0 =>
 a0b (at? b s13) fun r1 =>
 tif ((!((decide (r0.1=r1.1))&&((decide (r0.2.1=r1.2.1))&&((decide (r0.2.2.1.1=r1.2.2.1.1))&&((decide (r0.2.2.1.2.1=r1.2.2.1.2.1))&&((decide (r0.2.2.1.2.2.1=r1.2.2.1.2.2.1))&&((r0.2.2.1.2.2.2==r1.2.2.1.2.2.2)&&((decide (r0.2.2.2.1.1=r1.2.2.2.1.1))&&((decide (r0.2.2.2.1.2.1=r1.2.2.2.1.2.1))&&((decide (r0.2.2.2.1.2.2.1=r1.2.2.2.1.2.2.1))&&((r0.2.2.2.1.2.2.2==r1.2.2.2.1.2.2.2)&&((decide (r0.2.2.2.2.1.1=r1.2.2.2.2.1.1))&&((decide (r0.2.2.2.2.1.2=r1.2.2.2.2.1.2))&&((decide (r0.2.2.2.2.2.1=r1.2.2.2.2.2.1))&&((decide (r0.2.2.2.2.2.2.1=r1.2.2.2.2.2.2.1))&&(decide (r0.2.2.2.2.2.2.2=r1.2.2.2.2.2.2.2)))))))))))))))))) (
 some (.inr false)) (
 p0a n f (a,(b,(s12,((IntKind.wrap .i64 (s13+1)),())))))) (
 some (.inl ())):=by kernel_rfl
theorem x0n (n:Nat) (s1:(List a0u)) (s2:(List a0u)):m0p (n+1) s1 s2 =
 tif ((!(decide ((((List.length s1):Nat):Int)=(((List.length s2):Nat):Int))))) (
 some false) (
 a0b (f0o n a0c (s1,(s2,((((List.length s1):Nat):Int),(0,()))))) fun r0 =>
 b0s (fun y1 =>
 some true) (fun z2 =>
 some z2) r0):=by kernel_rfl
theorem j0u (n f:Nat) (s1:(List a0u)) (s2:(List a0u)) (s12:Int) (s13:Int):f0o n (f+1) (s1,s2,s12,s13,()) =
 tif ((decide (s13<s12))) (
 a0b (at? s1 s13) fun r0 =>
 a0b (at? s2 s13) fun r1 =>
 tif ((!((decide (r0.1=r1.1))&&((decide (r0.2.1=r1.2.1))&&((decide (r0.2.2.1=r1.2.2.1))&&(r0.2.2.2==r1.2.2.2)))))) (
 some (.inr false)) (
 f0o n f (s1,(s2,(s12,((IntKind.wrap .i64 (s13+1)),())))))) (
 some (.inl ())):=by kernel_rfl
theorem s0u (n:Nat) (s:(List Int)) (f_:((Int×Unit)→Option Bool)):n0j (n+1) s f_ =
 a0b (c0q n a0c (s,(f_,((((List.length s):Nat):Int),(0,()))))) fun r0 =>
 b0s (fun y1 =>
 some ((-1):Int)) (fun z2 =>
 some z2) r0:=by kernel_rfl
theorem h0e (n f:Nat) (s:(List Int)) (f_:((Int×Unit)→Option Bool)) (s7:Int) (s8:Int):c0q n (f+1) (s,f_,s7,s8,()) =
 tif ((decide (s8<s7))) (
 a0b (at? s s8) fun r0 =>
 a0b (f_ (r0,())) fun r1 =>
 tif (r1) (
 some (.inr s8)) (
 c0q n f (s,(f_,(s7,((IntKind.wrap .i64 (s8+1)),())))))) (
 some (.inl ())):=by kernel_rfl
theorem m1s (n:Nat) (a:(Int×Int)):s0i (n+1) a =
 tif ((!(decide (a.1=0)))) (
 a0b (d0i n a.1) fun r0 =>
 some (IntKind.wrap .i64 ((64:Int)+r0))) (
 a0b (d0i n a.2) fun r1 =>
 some r1):=by kernel_rfl
theorem l1u (n:Nat) (l:(List a0d)) (w:Int):n0e (n+1) l w =
 tif ((decide ((((List.length l):Nat):Int)=0))) (
 some (2:Int)) (
 tif ((decide ((4096:Int)<(((List.length l):Nat):Int)))) (
 some (2:Int)) (
 tif ((decide (w<1))) (
 some (2:Int)) (
 tif ((decide ((1099511627776:Int)<w))) (
 some (2:Int)) (
 a0b (f0l n a0c (l,(w,(l,((((List.length l):Nat):Int),(0,())))))) fun r0 =>
 b0s (fun y1 =>
 some (0:Int)) (fun z2 =>
 some z2) r0)))):=by kernel_rfl
theorem p0s (n f:Nat) (l:(List a0d)) (w:Int) (s23:(List a0d)) (s24:Int) (s25:Int):f0l n (f+1) (l,w,s23,s24,s25,()) =
 tif ((decide (s25<s24))) (
 a0b (at? s23 s25) fun r0 =>
 a0b (q0d n r0) fun r1 =>
 tif ((!r1)) (
 a0b (l1q n r0.1 (((List.length l):Nat):Int)) fun r2 =>
 tif ((!(decide (r2=s25)))) (
 some (.inr (2:Int))) (
 a0b (u0w n r0.2 w r0.1) fun r3 =>
 tif ((!r3)) (
 some (.inr (2:Int))) (
 f0l n f (l,(w,(s23,(s24,((IntKind.wrap .i64 (s25+1)),())))))))) (
 f0l n f (l,(w,(s23,(s24,((IntKind.wrap .i64 (s25+1)),()))))))) (
 some (.inl ())):=by kernel_rfl
theorem o0u (n:Nat) (s:(List a0d)) (f_:((a0d×Unit)→Option Bool)):f0x (n+1) s f_ =
 a0b (i0i n s f_) fun r0 =>
 some (decide ((0:Int)≤r0)):=by kernel_rfl
theorem v0m (n:Nat) (s:a0d) (p1:Int):l0f (n+1) s p1 =
 tif ((decide ((0:Int)<s.2.1))) (
 some (decide (p1≤s.1))) (
 some false):=by kernel_rfl
theorem q0i (n:Nat) (s:(List a0d)) (del:((a0d×Unit)→Option Bool)):h0m (n+1) s del =
 a0b (i0i n s del) fun r0 =>
 tif ((decide (r0=((-1):Int)))) (
 some s) (
 a0b (c0k n a0c (s,(del,(r0,((IntKind.wrap .i64 (r0+1)),()))))) fun r1 =>
 b0s (fun y2 =>
 tif ((decide ((0:Int)≤y2.2.1))) (
 tif ((decide ((Int.toNat y2.2.1)≤(List.length y2.1)))) (
 tif ((decide (((Int.toNat y2.2.1)+((List.length y2.1)-(Int.toNat y2.2.1)))≤(List.length y2.1)))) (
 tif (((decide ((0:Int)≤y2.2.1))&&(decide (y2.2.1≤(((List.length (Go.Flat.putRow y2.1 (Int.toNat y2.2.1) (List.replicate ((List.length y2.1)-(Int.toNat y2.2.1)) (0,(0,((0,(0,(0,false))),((0,(0,(0,false))),((0,0),(0,(0,0)))))))))):Nat):Int))))) (
 some (List.take ((Int.toNat y2.2.1)-0) (Go.Flat.putRow y2.1 (Int.toNat y2.2.1) (List.replicate ((List.length y2.1)-(Int.toNat y2.2.1)) (0,(0,((0,(0,(0,false))),((0,(0,(0,false))),((0,0),(0,(0,0))))))))))) (
 none)) (
 none)) (
 none)) (
 none)) (fun z3 =>
 some z3) r1):=by kernel_rfl
theorem g0u (n f:Nat) (s:(List a0d)) (del:((a0d×Unit)→Option Bool)) (i:Int) (j:Int):c0k n (f+1) (s,del,i,j,()) =
 tif ((decide (j<(((List.length s):Nat):Int)))) (
 a0b (at? s j) fun r0 =>
 a0b ((s)[(Int.toNat j)]?) fun r1 =>
 a0b (del (r1,())) fun r2 =>
 tif ((!r2)) (
 a0b (at? s i) fun r3 =>
 a0b ((s)[(Int.toNat i)]?) fun r4 =>
 c0k n f ((List.set s (Int.toNat i) r1),(del,((IntKind.wrap .i64 (i+1)),((IntKind.wrap .i64 (j+1)),()))))) (
 c0k n f (s,(del,(i,((IntKind.wrap .i64 (j+1)),())))))) (
 some (.inl (s,(i,())))):=by kernel_rfl
theorem q1b (n:Nat) (s:a0d):q0d (n+1) s =
 some ((decide (s.1=0))&&((decide (s.2.1=0))&&((decide (s.2.2.1.1=0))&&((decide (s.2.2.1.2.1=0))&&((decide (s.2.2.1.2.2.1=0))&&((s.2.2.1.2.2.2==false)&&((decide (s.2.2.2.1.1=0))&&((decide (s.2.2.2.1.2.1=0))&&((decide (s.2.2.2.1.2.2.1=0))&&((s.2.2.2.1.2.2.2==false)&&((decide (s.2.2.2.2.1.1=0))&&((decide (s.2.2.2.2.1.2=0))&&((decide (s.2.2.2.2.2.1=0))&&((decide (s.2.2.2.2.2.2.1=0))&&(decide (s.2.2.2.2.2.2.2=0)))))))))))))))):=by kernel_rfl
theorem m0n (n:Nat) (x:(List a0d)) (cmp:((a0d×(a0d×Unit))→Option Int)):e0v (n+1) x cmp =
 a0b (f2e n x (((List.length x):Nat):Int) cmp) fun r0 =>
 some r0:=by kernel_rfl
theorem l1v (n:Nat) (a:a0d) (b:a0d):r0z (n+1) a b =
 a0b (i0r n a.1 b.1) fun r0 =>
 some r0:=by kernel_rfl
theorem s0w (n:Nat) (x:Int) (y:Int):i0r (n+1) x y =
 a0b (l0s n x) fun r0 =>
 a0b (l0s n y) fun r1 =>
 tif (r0) (
 tif (r1) (
 some (0:Int)) (
 some ((-1):Int))) (
 tif (r1) (
 some (1:Int)) (
 tif ((decide (x<y))) (
 some ((-1):Int)) (
 tif ((decide (y<x))) (
 some (1:Int)) (
 some (0:Int))))):=by kernel_rfl
theorem q0h (n:Nat) (s:(List (List UInt8×List UInt8))) (f_:(((List UInt8×List UInt8)×Unit)→Option Bool)):l0w (n+1) s f_ =
 a0b (c0j n a0c (s,(f_,((((List.length s):Nat):Int),(0,()))))) fun r0 =>
 b0s (fun y1 =>
 some ((-1):Int)) (fun z2 =>
 some z2) r0:=by kernel_rfl
theorem g0t (n f:Nat) (s:(List (List UInt8×List UInt8))) (f_:(((List UInt8×List UInt8)×Unit)→Option Bool)) (s7:Int) (s8:Int):c0j n (f+1) (s,f_,s7,s8,()) =
 tif ((decide (s8<s7))) (
 a0b (at? s s8) fun r0 =>
 a0b (f_ (r0,())) fun r1 =>
 tif (r1) (
 some (.inr s8)) (
 c0j n f (s,(f_,(s7,((IntKind.wrap .i64 (s8+1)),())))))) (
 some (.inl ())):=by kernel_rfl
theorem a1a (n:Nat) (x:(List UInt8×List UInt8)) (p1:List UInt8):p0l (n+1) x p1 =
 some (x.1==p1):=by kernel_rfl
theorem n0f (n:Nat) (s:List UInt8) (prefix_:List UInt8):stringslite_HasPrefix (n+1) s prefix_ =
 tif ((decide ((((List.length prefix_):Nat):Int)≤(((List.length s):Nat):Int)))) (
 tif (((decide ((0:Int)≤(((List.length prefix_):Nat):Int)))&&(decide ((((List.length prefix_):Nat):Int)≤(((List.length s):Nat):Int))))) (
 some ((List.drop 0 (List.take (Int.toNat (((List.length prefix_):Nat):Int)) s))==prefix_)) (
 none)) (
 some false):=by kernel_rfl
theorem w0m (n:Nat) (x:Int):d0i (n+1) x =
 tif ((decide ((4294967296:Int)≤x))) (
 tif ((decide ((65536:Int)≤(shrI .u64 x (32:Int))))) (
 tif ((decide ((256:Int)≤(shrI .u64 (shrI .u64 x (32:Int)) (16:Int))))) (
 a0b (at? f0s (IntKind.wrap .u8 (shrI .u64 (shrI .u64 (shrI .u64 x (32:Int)) (16:Int)) (8:Int)))) fun r0 =>
 some (IntKind.wrap .i64 ((56:Int)+(IntKind.wrap .i64 (((UInt8.toNat r0):Nat):Int))))) (
 a0b (at? f0s (IntKind.wrap .u8 (shrI .u64 (shrI .u64 x (32:Int)) (16:Int)))) fun r1 =>
 some (IntKind.wrap .i64 ((48:Int)+(IntKind.wrap .i64 (((UInt8.toNat r1):Nat):Int)))))) (
 tif ((decide ((256:Int)≤(shrI .u64 x (32:Int))))) (
 a0b (at? f0s (IntKind.wrap .u8 (shrI .u64 (shrI .u64 x (32:Int)) (8:Int)))) fun r2 =>
 some (IntKind.wrap .i64 ((40:Int)+(IntKind.wrap .i64 (((UInt8.toNat r2):Nat):Int))))) (
 a0b (at? f0s (IntKind.wrap .u8 (shrI .u64 x (32:Int)))) fun r3 =>
 some (IntKind.wrap .i64 ((32:Int)+(IntKind.wrap .i64 (((UInt8.toNat r3):Nat):Int))))))) (
 tif ((decide ((65536:Int)≤x))) (
 tif ((decide ((256:Int)≤(shrI .u64 x (16:Int))))) (
 a0b (at? f0s (IntKind.wrap .u8 (shrI .u64 (shrI .u64 x (16:Int)) (8:Int)))) fun r4 =>
 some (IntKind.wrap .i64 ((24:Int)+(IntKind.wrap .i64 (((UInt8.toNat r4):Nat):Int))))) (
 a0b (at? f0s (IntKind.wrap .u8 (shrI .u64 x (16:Int)))) fun r5 =>
 some (IntKind.wrap .i64 ((16:Int)+(IntKind.wrap .i64 (((UInt8.toNat r5):Nat):Int)))))) (
 tif ((decide ((256:Int)≤x))) (
 a0b (at? f0s (IntKind.wrap .u8 (shrI .u64 x (8:Int)))) fun r6 =>
 some (IntKind.wrap .i64 ((8:Int)+(IntKind.wrap .i64 (((UInt8.toNat r6):Nat):Int))))) (
 a0b (at? f0s (IntKind.wrap .u8 x)) fun r7 =>
 some (IntKind.wrap .i64 ((0:Int)+(IntKind.wrap .i64 (((UInt8.toNat r7):Nat):Int))))))):=by kernel_rfl
theorem j0r (n:Nat) (s:(List a0d)) (f_:((a0d×Unit)→Option Bool)):i0i (n+1) s f_ =
 a0b (c0r n a0c (s,(f_,((((List.length s):Nat):Int),(0,()))))) fun r0 =>
 b0s (fun y1 =>
 some ((-1):Int)) (fun z2 =>
 some z2) r0:=by kernel_rfl
theorem h0f (n f:Nat) (s:(List a0d)) (f_:((a0d×Unit)→Option Bool)) (s7:Int) (s8:Int):c0r n (f+1) (s,f_,s7,s8,()) =
 tif ((decide (s8<s7))) (
 a0b (at? s s8) fun r0 =>
 a0b (f_ (r0,())) fun r1 =>
 tif (r1) (
 some (.inr s8)) (
 c0r n f (s,(f_,(s7,((IntKind.wrap .i64 (s8+1)),())))))) (
 some (.inl ())):=by kernel_rfl
theorem b2m (n:Nat) (data:(List a0d)) (n_:Int) (cmp:((a0d×(a0d×Unit))→Option Int)):f2e (n+1) data n_ cmp =
 a0b (n0h n a0c (data,(n_,(cmp,(20,(0,(20,()))))))) fun r0 =>
 b0s (fun y1 =>
 a0b (m1h n y1.1 y1.2.2.2.2.1 y1.2.1 y1.2.2.1) fun r2 =>
 a0b (k0i n a0c (r2,(y1.2.1,(y1.2.2.1,(y1.2.2.2.1,()))))) fun r3 =>
 b0s (fun y4 =>
 some y4.1) (fun z5 =>
 some z5) r3) (fun z6 =>
 some z6) r0:=by kernel_rfl
theorem v0j (n f:Nat) (data:(List a0d)) (n_:Int) (cmp:((a0d×(a0d×Unit))→Option Int)) (blockSize:Int) (a:Int) (b:Int):n0h n (f+1) (data,n_,cmp,blockSize,a,b,()) =
 tif ((decide (b≤n_))) (
 a0b (m1h n data a b cmp) fun r0 =>
 n0h n f (r0,(n_,(cmp,(blockSize,(b,((IntKind.wrap .i64 (b+blockSize)),()))))))) (
 some (.inl (data,(n_,(cmp,(blockSize,(a,()))))))):=by kernel_rfl
theorem v0i (n f:Nat) (data:(List a0d)) (n_:Int) (cmp:((a0d×(a0d×Unit))→Option Int)) (blockSize:Int):k0i n (f+1) (data,n_,cmp,blockSize,()) =
 tif ((decide (blockSize<n_))) (
 a0b (s0f n a0c (data,(n_,(cmp,(blockSize,(0,((IntKind.wrap .i64 ((2:Int)*blockSize)),()))))))) fun r0 =>
 b0s (fun y1 =>
 tif ((decide ((IntKind.wrap .i64 (y1.2.2.2.2.1+y1.2.2.2.1))<y1.2.1))) (
 a0b (b0k n y1.1 y1.2.2.2.2.1 (IntKind.wrap .i64 (y1.2.2.2.2.1+y1.2.2.2.1)) y1.2.1 y1.2.2.1) fun r2 =>
 k0i n f (r2,(y1.2.1,(y1.2.2.1,((IntKind.wrap .i64 (y1.2.2.2.1*2)),()))))) (
 k0i n f (y1.1,(y1.2.1,(y1.2.2.1,((IntKind.wrap .i64 (y1.2.2.2.1*2)),())))))) (fun z3 =>
 some (.inr z3)) r0) (
 some (.inl (data,()))):=by kernel_rfl
theorem v0h (n f:Nat) (data:(List a0d)) (n_:Int) (cmp:((a0d×(a0d×Unit))→Option Int)) (blockSize:Int) (a:Int) (b:Int):s0f n (f+1) (data,n_,cmp,blockSize,a,b,()) =
 tif ((decide (b≤n_))) (
 a0b (b0k n data a (IntKind.wrap .i64 (a+blockSize)) b cmp) fun r0 =>
 s0f n f (r0,(n_,(cmp,(blockSize,(b,((IntKind.wrap .i64 (b+(IntKind.wrap .i64 ((2:Int)*blockSize)))),()))))))) (
 some (.inl (data,(n_,(cmp,(blockSize,(a,()))))))):=by kernel_rfl
theorem m0f (n:Nat) (x:Int):l0s (n+1) x =
 some (!(decide (x=x))):=by kernel_rfl
theorem b2o (n:Nat) (data:(List a0d)) (a:Int) (b:Int) (cmp:((a0d×(a0d×Unit))→Option Int)):m1h (n+1) data a b cmp =
 a0b (s0h n a0c (data,(a,(b,(cmp,((IntKind.wrap .i64 (a+1)),())))))) fun r0 =>
 b0s (fun y1 =>
 some y1.1) (fun z2 =>
 some z2) r0:=by kernel_rfl
theorem v0l (n f:Nat) (data:(List a0d)) (a:Int) (b:Int) (cmp:((a0d×(a0d×Unit))→Option Int)) (i:Int):s0h n (f+1) (data,a,b,cmp,i,()) =
 tif ((decide (i<b))) (
 a0b (s0g n a0c (data,(a,(b,(cmp,(i,(i,()))))))) fun r0 =>
 b0s (fun y1 =>
 s0h n f (y1.1,(y1.2.1,(y1.2.2.1,(y1.2.2.2.1,((IntKind.wrap .i64 (y1.2.2.2.2.1+1)),())))))) (fun z2 =>
 some (.inr z2)) r0) (
 some (.inl (data,()))):=by kernel_rfl
theorem v0k (n f:Nat) (data:(List a0d)) (a:Int) (b:Int) (cmp:((a0d×(a0d×Unit))→Option Int)) (i:Int) (j:Int):s0g n (f+1) (data,a,b,cmp,i,j,()) =
 tif ((decide (a<j))) (
 a0b (at? data j) fun r0 =>
 a0b ((data)[(Int.toNat j)]?) fun r1 =>
 a0b (at? data (IntKind.wrap .i64 (j-1))) fun r2 =>
 a0b ((data)[(Int.toNat (IntKind.wrap .i64 (j-1)))]?) fun r3 =>
 a0b (cmp (r1,(r3,()))) fun r4 =>
 tif ((decide (r4<0))) (
 a0b (at? data (IntKind.wrap .i64 (j-1))) fun r5 =>
 a0b ((data)[(Int.toNat (IntKind.wrap .i64 (j-1)))]?) fun r6 =>
 a0b (at? data j) fun r7 =>
 a0b ((data)[(Int.toNat j)]?) fun r8 =>
 a0b (at? data j) fun r9 =>
 a0b ((data)[(Int.toNat j)]?) fun r10 =>
 a0b (at? (List.set data (Int.toNat j) r6) (IntKind.wrap .i64 (j-1))) fun r11 =>
 a0b (((List.set data (Int.toNat j) r6))[(Int.toNat (IntKind.wrap .i64 (j-1)))]?) fun r12 =>
 s0g n f ((List.set (List.set data (Int.toNat j) r6) (Int.toNat (IntKind.wrap .i64 (j-1))) r8),(a,(b,(cmp,(i,((IntKind.wrap .i64 (j-1)),()))))))) (
 some (.inl (data,(a,(b,(cmp,(i,())))))))) (
 some (.inl (data,(a,(b,(cmp,(i,()))))))):=by kernel_rfl
theorem b2k (n:Nat) (data:(List a0d)) (a:Int) (m:Int) (b:Int) (cmp:((a0d×(a0d×Unit))→Option Int)):b0k (n+1) data a m b cmp =
 tif ((decide ((IntKind.wrap .i64 (m-a))=1))) (
 a0b (n0g n a0c (data,(a,(cmp,(m,(b,())))))) fun r0 =>
 b0s (fun y1 =>
 a0b (s0d n a0c (y1.1,(y1.2.2.1,(y1.2.1,())))) fun r2 =>
 b0s (fun y3 =>
 some y3.1) (fun z4 =>
 some z4) r2) (fun z5 =>
 some z5) r0) (
 tif ((decide ((IntKind.wrap .i64 (b-m))=1))) (
 a0b (l0d n a0c (data,(m,(cmp,(a,(m,())))))) fun r6 =>
 b0s (fun y7 =>
 a0b (o0r n a0c (y7.1,(y7.2.2.1,(y7.2.1,())))) fun r8 =>
 b0s (fun y9 =>
 some y9.1) (fun z10 =>
 some z10) r8) (fun z11 =>
 some z11) r6) (
 tif ((decide ((IntKind.wrap .i64 (shrI .u64 (IntKind.wrap .u64 (IntKind.wrap .i64 (a+b))) (1:Int)))<m))) (
 a0b (i0h n a0c (data,(a,(m,(b,(cmp,((IntKind.wrap .i64 (shrI .u64 (IntKind.wrap .u64 (IntKind.wrap .i64 (a+b))) (1:Int))),((IntKind.wrap .i64 ((IntKind.wrap .i64 (shrI .u64 (IntKind.wrap .u64 (IntKind.wrap .i64 (a+b))) (1:Int)))+m)),((IntKind.wrap .i64 ((IntKind.wrap .i64 ((IntKind.wrap .i64 (shrI .u64 (IntKind.wrap .u64 (IntKind.wrap .i64 (a+b))) (1:Int)))+m))-b)),((IntKind.wrap .i64 (shrI .u64 (IntKind.wrap .u64 (IntKind.wrap .i64 (a+b))) (1:Int))),((IntKind.wrap .i64 ((IntKind.wrap .i64 ((IntKind.wrap .i64 (shrI .u64 (IntKind.wrap .u64 (IntKind.wrap .i64 (a+b))) (1:Int)))+m))-1)),()))))))))))) fun r12 =>
 b0s (fun y13 =>
 tif ((decide (y13.2.2.2.2.2.2.2.1<y13.2.2.1))) (
 tif ((decide (y13.2.2.1<(IntKind.wrap .i64 (y13.2.2.2.2.2.2.1-y13.2.2.2.2.2.2.2.1))))) (
 a0b (b1p n y13.1 y13.2.2.2.2.2.2.2.1 y13.2.2.1 (IntKind.wrap .i64 (y13.2.2.2.2.2.2.1-y13.2.2.2.2.2.2.2.1)) y13.2.2.2.2.1) fun r14 =>
 tif ((decide (y13.2.1<y13.2.2.2.2.2.2.2.1))) (
 tif ((decide (y13.2.2.2.2.2.2.2.1<y13.2.2.2.2.2.1))) (
 a0b (b0k n r14 y13.2.1 y13.2.2.2.2.2.2.2.1 y13.2.2.2.2.2.1 y13.2.2.2.2.1) fun r15 =>
 tif ((decide (y13.2.2.2.2.2.1<(IntKind.wrap .i64 (y13.2.2.2.2.2.2.1-y13.2.2.2.2.2.2.2.1))))) (
 tif ((decide ((IntKind.wrap .i64 (y13.2.2.2.2.2.2.1-y13.2.2.2.2.2.2.2.1))<y13.2.2.2.1))) (
 a0b (b0k n r15 y13.2.2.2.2.2.1 (IntKind.wrap .i64 (y13.2.2.2.2.2.2.1-y13.2.2.2.2.2.2.2.1)) y13.2.2.2.1 y13.2.2.2.2.1) fun r16 =>
 some r16) (
 some r15)) (
 some r15)) (
 tif ((decide (y13.2.2.2.2.2.1<(IntKind.wrap .i64 (y13.2.2.2.2.2.2.1-y13.2.2.2.2.2.2.2.1))))) (
 tif ((decide ((IntKind.wrap .i64 (y13.2.2.2.2.2.2.1-y13.2.2.2.2.2.2.2.1))<y13.2.2.2.1))) (
 a0b (b0k n r14 y13.2.2.2.2.2.1 (IntKind.wrap .i64 (y13.2.2.2.2.2.2.1-y13.2.2.2.2.2.2.2.1)) y13.2.2.2.1 y13.2.2.2.2.1) fun r17 =>
 some r17) (
 some r14)) (
 some r14))) (
 tif ((decide (y13.2.2.2.2.2.1<(IntKind.wrap .i64 (y13.2.2.2.2.2.2.1-y13.2.2.2.2.2.2.2.1))))) (
 tif ((decide ((IntKind.wrap .i64 (y13.2.2.2.2.2.2.1-y13.2.2.2.2.2.2.2.1))<y13.2.2.2.1))) (
 a0b (b0k n r14 y13.2.2.2.2.2.1 (IntKind.wrap .i64 (y13.2.2.2.2.2.2.1-y13.2.2.2.2.2.2.2.1)) y13.2.2.2.1 y13.2.2.2.2.1) fun r18 =>
 some r18) (
 some r14)) (
 some r14))) (
 tif ((decide (y13.2.1<y13.2.2.2.2.2.2.2.1))) (
 tif ((decide (y13.2.2.2.2.2.2.2.1<y13.2.2.2.2.2.1))) (
 a0b (b0k n y13.1 y13.2.1 y13.2.2.2.2.2.2.2.1 y13.2.2.2.2.2.1 y13.2.2.2.2.1) fun r19 =>
 tif ((decide (y13.2.2.2.2.2.1<(IntKind.wrap .i64 (y13.2.2.2.2.2.2.1-y13.2.2.2.2.2.2.2.1))))) (
 tif ((decide ((IntKind.wrap .i64 (y13.2.2.2.2.2.2.1-y13.2.2.2.2.2.2.2.1))<y13.2.2.2.1))) (
 a0b (b0k n r19 y13.2.2.2.2.2.1 (IntKind.wrap .i64 (y13.2.2.2.2.2.2.1-y13.2.2.2.2.2.2.2.1)) y13.2.2.2.1 y13.2.2.2.2.1) fun r20 =>
 some r20) (
 some r19)) (
 some r19)) (
 tif ((decide (y13.2.2.2.2.2.1<(IntKind.wrap .i64 (y13.2.2.2.2.2.2.1-y13.2.2.2.2.2.2.2.1))))) (
 tif ((decide ((IntKind.wrap .i64 (y13.2.2.2.2.2.2.1-y13.2.2.2.2.2.2.2.1))<y13.2.2.2.1))) (
 a0b (b0k n y13.1 y13.2.2.2.2.2.1 (IntKind.wrap .i64 (y13.2.2.2.2.2.2.1-y13.2.2.2.2.2.2.2.1)) y13.2.2.2.1 y13.2.2.2.2.1) fun r21 =>
 some r21) (
 some y13.1)) (
 some y13.1))) (
 tif ((decide (y13.2.2.2.2.2.1<(IntKind.wrap .i64 (y13.2.2.2.2.2.2.1-y13.2.2.2.2.2.2.2.1))))) (
 tif ((decide ((IntKind.wrap .i64 (y13.2.2.2.2.2.2.1-y13.2.2.2.2.2.2.2.1))<y13.2.2.2.1))) (
 a0b (b0k n y13.1 y13.2.2.2.2.2.1 (IntKind.wrap .i64 (y13.2.2.2.2.2.2.1-y13.2.2.2.2.2.2.2.1)) y13.2.2.2.1 y13.2.2.2.2.1) fun r22 =>
 some r22) (
 some y13.1)) (
 some y13.1)))) (
 tif ((decide (y13.2.1<y13.2.2.2.2.2.2.2.1))) (
 tif ((decide (y13.2.2.2.2.2.2.2.1<y13.2.2.2.2.2.1))) (
 a0b (b0k n y13.1 y13.2.1 y13.2.2.2.2.2.2.2.1 y13.2.2.2.2.2.1 y13.2.2.2.2.1) fun r23 =>
 tif ((decide (y13.2.2.2.2.2.1<(IntKind.wrap .i64 (y13.2.2.2.2.2.2.1-y13.2.2.2.2.2.2.2.1))))) (
 tif ((decide ((IntKind.wrap .i64 (y13.2.2.2.2.2.2.1-y13.2.2.2.2.2.2.2.1))<y13.2.2.2.1))) (
 a0b (b0k n r23 y13.2.2.2.2.2.1 (IntKind.wrap .i64 (y13.2.2.2.2.2.2.1-y13.2.2.2.2.2.2.2.1)) y13.2.2.2.1 y13.2.2.2.2.1) fun r24 =>
 some r24) (
 some r23)) (
 some r23)) (
 tif ((decide (y13.2.2.2.2.2.1<(IntKind.wrap .i64 (y13.2.2.2.2.2.2.1-y13.2.2.2.2.2.2.2.1))))) (
 tif ((decide ((IntKind.wrap .i64 (y13.2.2.2.2.2.2.1-y13.2.2.2.2.2.2.2.1))<y13.2.2.2.1))) (
 a0b (b0k n y13.1 y13.2.2.2.2.2.1 (IntKind.wrap .i64 (y13.2.2.2.2.2.2.1-y13.2.2.2.2.2.2.2.1)) y13.2.2.2.1 y13.2.2.2.2.1) fun r25 =>
 some r25) (
 some y13.1)) (
 some y13.1))) (
 tif ((decide (y13.2.2.2.2.2.1<(IntKind.wrap .i64 (y13.2.2.2.2.2.2.1-y13.2.2.2.2.2.2.2.1))))) (
 tif ((decide ((IntKind.wrap .i64 (y13.2.2.2.2.2.2.1-y13.2.2.2.2.2.2.2.1))<y13.2.2.2.1))) (
 a0b (b0k n y13.1 y13.2.2.2.2.2.1 (IntKind.wrap .i64 (y13.2.2.2.2.2.2.1-y13.2.2.2.2.2.2.2.1)) y13.2.2.2.1 y13.2.2.2.2.1) fun r26 =>
 some r26) (
 some y13.1)) (
 some y13.1)))) (fun z27 =>
 some z27) r12) (
 a0b (i0h n a0c (data,(a,(m,(b,(cmp,((IntKind.wrap .i64 (shrI .u64 (IntKind.wrap .u64 (IntKind.wrap .i64 (a+b))) (1:Int))),((IntKind.wrap .i64 ((IntKind.wrap .i64 (shrI .u64 (IntKind.wrap .u64 (IntKind.wrap .i64 (a+b))) (1:Int)))+m)),(a,(m,((IntKind.wrap .i64 ((IntKind.wrap .i64 ((IntKind.wrap .i64 (shrI .u64 (IntKind.wrap .u64 (IntKind.wrap .i64 (a+b))) (1:Int)))+m))-1)),()))))))))))) fun r28 =>
 b0s (fun y29 =>
 tif ((decide (y29.2.2.2.2.2.2.2.1<y29.2.2.1))) (
 tif ((decide (y29.2.2.1<(IntKind.wrap .i64 (y29.2.2.2.2.2.2.1-y29.2.2.2.2.2.2.2.1))))) (
 a0b (b1p n y29.1 y29.2.2.2.2.2.2.2.1 y29.2.2.1 (IntKind.wrap .i64 (y29.2.2.2.2.2.2.1-y29.2.2.2.2.2.2.2.1)) y29.2.2.2.2.1) fun r30 =>
 tif ((decide (y29.2.1<y29.2.2.2.2.2.2.2.1))) (
 tif ((decide (y29.2.2.2.2.2.2.2.1<y29.2.2.2.2.2.1))) (
 a0b (b0k n r30 y29.2.1 y29.2.2.2.2.2.2.2.1 y29.2.2.2.2.2.1 y29.2.2.2.2.1) fun r31 =>
 tif ((decide (y29.2.2.2.2.2.1<(IntKind.wrap .i64 (y29.2.2.2.2.2.2.1-y29.2.2.2.2.2.2.2.1))))) (
 tif ((decide ((IntKind.wrap .i64 (y29.2.2.2.2.2.2.1-y29.2.2.2.2.2.2.2.1))<y29.2.2.2.1))) (
 a0b (b0k n r31 y29.2.2.2.2.2.1 (IntKind.wrap .i64 (y29.2.2.2.2.2.2.1-y29.2.2.2.2.2.2.2.1)) y29.2.2.2.1 y29.2.2.2.2.1) fun r32 =>
 some r32) (
 some r31)) (
 some r31)) (
 tif ((decide (y29.2.2.2.2.2.1<(IntKind.wrap .i64 (y29.2.2.2.2.2.2.1-y29.2.2.2.2.2.2.2.1))))) (
 tif ((decide ((IntKind.wrap .i64 (y29.2.2.2.2.2.2.1-y29.2.2.2.2.2.2.2.1))<y29.2.2.2.1))) (
 a0b (b0k n r30 y29.2.2.2.2.2.1 (IntKind.wrap .i64 (y29.2.2.2.2.2.2.1-y29.2.2.2.2.2.2.2.1)) y29.2.2.2.1 y29.2.2.2.2.1) fun r33 =>
 some r33) (
 some r30)) (
 some r30))) (
 tif ((decide (y29.2.2.2.2.2.1<(IntKind.wrap .i64 (y29.2.2.2.2.2.2.1-y29.2.2.2.2.2.2.2.1))))) (
 tif ((decide ((IntKind.wrap .i64 (y29.2.2.2.2.2.2.1-y29.2.2.2.2.2.2.2.1))<y29.2.2.2.1))) (
 a0b (b0k n r30 y29.2.2.2.2.2.1 (IntKind.wrap .i64 (y29.2.2.2.2.2.2.1-y29.2.2.2.2.2.2.2.1)) y29.2.2.2.1 y29.2.2.2.2.1) fun r34 =>
 some r34) (
 some r30)) (
 some r30))) (
 tif ((decide (y29.2.1<y29.2.2.2.2.2.2.2.1))) (
 tif ((decide (y29.2.2.2.2.2.2.2.1<y29.2.2.2.2.2.1))) (
 a0b (b0k n y29.1 y29.2.1 y29.2.2.2.2.2.2.2.1 y29.2.2.2.2.2.1 y29.2.2.2.2.1) fun r35 =>
 tif ((decide (y29.2.2.2.2.2.1<(IntKind.wrap .i64 (y29.2.2.2.2.2.2.1-y29.2.2.2.2.2.2.2.1))))) (
 tif ((decide ((IntKind.wrap .i64 (y29.2.2.2.2.2.2.1-y29.2.2.2.2.2.2.2.1))<y29.2.2.2.1))) (
 a0b (b0k n r35 y29.2.2.2.2.2.1 (IntKind.wrap .i64 (y29.2.2.2.2.2.2.1-y29.2.2.2.2.2.2.2.1)) y29.2.2.2.1 y29.2.2.2.2.1) fun r36 =>
 some r36) (
 some r35)) (
 some r35)) (
 tif ((decide (y29.2.2.2.2.2.1<(IntKind.wrap .i64 (y29.2.2.2.2.2.2.1-y29.2.2.2.2.2.2.2.1))))) (
 tif ((decide ((IntKind.wrap .i64 (y29.2.2.2.2.2.2.1-y29.2.2.2.2.2.2.2.1))<y29.2.2.2.1))) (
 a0b (b0k n y29.1 y29.2.2.2.2.2.1 (IntKind.wrap .i64 (y29.2.2.2.2.2.2.1-y29.2.2.2.2.2.2.2.1)) y29.2.2.2.1 y29.2.2.2.2.1) fun r37 =>
 some r37) (
 some y29.1)) (
 some y29.1))) (
 tif ((decide (y29.2.2.2.2.2.1<(IntKind.wrap .i64 (y29.2.2.2.2.2.2.1-y29.2.2.2.2.2.2.2.1))))) (
 tif ((decide ((IntKind.wrap .i64 (y29.2.2.2.2.2.2.1-y29.2.2.2.2.2.2.2.1))<y29.2.2.2.1))) (
 a0b (b0k n y29.1 y29.2.2.2.2.2.1 (IntKind.wrap .i64 (y29.2.2.2.2.2.2.1-y29.2.2.2.2.2.2.2.1)) y29.2.2.2.1 y29.2.2.2.2.1) fun r38 =>
 some r38) (
 some y29.1)) (
 some y29.1)))) (
 tif ((decide (y29.2.1<y29.2.2.2.2.2.2.2.1))) (
 tif ((decide (y29.2.2.2.2.2.2.2.1<y29.2.2.2.2.2.1))) (
 a0b (b0k n y29.1 y29.2.1 y29.2.2.2.2.2.2.2.1 y29.2.2.2.2.2.1 y29.2.2.2.2.1) fun r39 =>
 tif ((decide (y29.2.2.2.2.2.1<(IntKind.wrap .i64 (y29.2.2.2.2.2.2.1-y29.2.2.2.2.2.2.2.1))))) (
 tif ((decide ((IntKind.wrap .i64 (y29.2.2.2.2.2.2.1-y29.2.2.2.2.2.2.2.1))<y29.2.2.2.1))) (
 a0b (b0k n r39 y29.2.2.2.2.2.1 (IntKind.wrap .i64 (y29.2.2.2.2.2.2.1-y29.2.2.2.2.2.2.2.1)) y29.2.2.2.1 y29.2.2.2.2.1) fun r40 =>
 some r40) (
 some r39)) (
 some r39)) (
 tif ((decide (y29.2.2.2.2.2.1<(IntKind.wrap .i64 (y29.2.2.2.2.2.2.1-y29.2.2.2.2.2.2.2.1))))) (
 tif ((decide ((IntKind.wrap .i64 (y29.2.2.2.2.2.2.1-y29.2.2.2.2.2.2.2.1))<y29.2.2.2.1))) (
 a0b (b0k n y29.1 y29.2.2.2.2.2.1 (IntKind.wrap .i64 (y29.2.2.2.2.2.2.1-y29.2.2.2.2.2.2.2.1)) y29.2.2.2.1 y29.2.2.2.2.1) fun r41 =>
 some r41) (
 some y29.1)) (
 some y29.1))) (
 tif ((decide (y29.2.2.2.2.2.1<(IntKind.wrap .i64 (y29.2.2.2.2.2.2.1-y29.2.2.2.2.2.2.2.1))))) (
 tif ((decide ((IntKind.wrap .i64 (y29.2.2.2.2.2.2.1-y29.2.2.2.2.2.2.2.1))<y29.2.2.2.1))) (
 a0b (b0k n y29.1 y29.2.2.2.2.2.1 (IntKind.wrap .i64 (y29.2.2.2.2.2.2.1-y29.2.2.2.2.2.2.2.1)) y29.2.2.2.1 y29.2.2.2.2.1) fun r42 =>
 some r42) (
 some y29.1)) (
 some y29.1)))) (fun z43 =>
 some z43) r28))):=by kernel_rfl
theorem v0f (n f:Nat) (data:(List a0d)) (a:Int) (cmp:((a0d×(a0d×Unit))→Option Int)) (i:Int) (j:Int):n0g n (f+1) (data,a,cmp,i,j,()) =
 tif ((decide (i<j))) (
 a0b (at? data (IntKind.wrap .i64 (shrI .u64 (IntKind.wrap .u64 (IntKind.wrap .i64 (i+j))) (1:Int)))) fun r0 =>
 a0b ((data)[(Int.toNat (IntKind.wrap .i64 (shrI .u64 (IntKind.wrap .u64 (IntKind.wrap .i64 (i+j))) (1:Int))))]?) fun r1 =>
 a0b (at? data a) fun r2 =>
 a0b ((data)[(Int.toNat a)]?) fun r3 =>
 a0b (cmp (r1,(r3,()))) fun r4 =>
 tif ((decide (r4<0))) (
 n0g n f (data,(a,(cmp,((IntKind.wrap .i64 ((IntKind.wrap .i64 (shrI .u64 (IntKind.wrap .u64 (IntKind.wrap .i64 (i+j))) (1:Int)))+1)),(j,())))))) (
 n0g n f (data,(a,(cmp,(i,((IntKind.wrap .i64 (shrI .u64 (IntKind.wrap .u64 (IntKind.wrap .i64 (i+j))) (1:Int))),()))))))) (
 some (.inl (data,(a,(i,()))))):=by kernel_rfl
theorem v0e (n f:Nat) (data:(List a0d)) (i:Int) (k:Int):s0d n (f+1) (data,i,k,()) =
 tif ((decide (k<(IntKind.wrap .i64 (i-1))))) (
 a0b (at? data (IntKind.wrap .i64 (k+1))) fun r0 =>
 a0b ((data)[(Int.toNat (IntKind.wrap .i64 (k+1)))]?) fun r1 =>
 a0b (at? data k) fun r2 =>
 a0b ((data)[(Int.toNat k)]?) fun r3 =>
 a0b (at? data k) fun r4 =>
 a0b ((data)[(Int.toNat k)]?) fun r5 =>
 a0b (at? (List.set data (Int.toNat k) r1) (IntKind.wrap .i64 (k+1))) fun r6 =>
 a0b (((List.set data (Int.toNat k) r1))[(Int.toNat (IntKind.wrap .i64 (k+1)))]?) fun r7 =>
 s0d n f ((List.set (List.set data (Int.toNat k) r1) (Int.toNat (IntKind.wrap .i64 (k+1))) r3),(i,((IntKind.wrap .i64 (k+1)),())))) (
 some (.inl (data,()))):=by kernel_rfl
theorem t0b (n f:Nat) (data:(List a0d)) (m:Int) (cmp:((a0d×(a0d×Unit))→Option Int)) (i_:Int) (j_:Int):l0d n (f+1) (data,m,cmp,i_,j_,()) =
 tif ((decide (i_<j_))) (
 a0b (at? data m) fun r0 =>
 a0b ((data)[(Int.toNat m)]?) fun r1 =>
 a0b (at? data (IntKind.wrap .i64 (shrI .u64 (IntKind.wrap .u64 (IntKind.wrap .i64 (i_+j_))) (1:Int)))) fun r2 =>
 a0b ((data)[(Int.toNat (IntKind.wrap .i64 (shrI .u64 (IntKind.wrap .u64 (IntKind.wrap .i64 (i_+j_))) (1:Int))))]?) fun r3 =>
 a0b (cmp (r1,(r3,()))) fun r4 =>
 tif ((!(decide (r4<0)))) (
 l0d n f (data,(m,(cmp,((IntKind.wrap .i64 ((IntKind.wrap .i64 (shrI .u64 (IntKind.wrap .u64 (IntKind.wrap .i64 (i_+j_))) (1:Int)))+1)),(j_,())))))) (
 l0d n f (data,(m,(cmp,(i_,((IntKind.wrap .i64 (shrI .u64 (IntKind.wrap .u64 (IntKind.wrap .i64 (i_+j_))) (1:Int))),()))))))) (
 some (.inl (data,(m,(i_,()))))):=by kernel_rfl
theorem t0a (n f:Nat) (data:(List a0d)) (i_:Int) (k_:Int):o0r n (f+1) (data,i_,k_,()) =
 tif ((decide (i_<k_))) (
 a0b (at? data (IntKind.wrap .i64 (k_-1))) fun r0 =>
 a0b ((data)[(Int.toNat (IntKind.wrap .i64 (k_-1)))]?) fun r1 =>
 a0b (at? data k_) fun r2 =>
 a0b ((data)[(Int.toNat k_)]?) fun r3 =>
 a0b (at? data k_) fun r4 =>
 a0b ((data)[(Int.toNat k_)]?) fun r5 =>
 a0b (at? (List.set data (Int.toNat k_) r1) (IntKind.wrap .i64 (k_-1))) fun r6 =>
 a0b (((List.set data (Int.toNat k_) r1))[(Int.toNat (IntKind.wrap .i64 (k_-1)))]?) fun r7 =>
 o0r n f ((List.set (List.set data (Int.toNat k_) r1) (Int.toNat (IntKind.wrap .i64 (k_-1))) r3),(i_,((IntKind.wrap .i64 (k_-1)),())))) (
 some (.inl (data,()))):=by kernel_rfl
theorem s0z (n f:Nat) (data:(List a0d)) (a:Int) (m:Int) (b:Int) (cmp:((a0d×(a0d×Unit))→Option Int)) (mid:Int) (n_:Int) (start:Int) (r:Int) (p:Int):i0h n (f+1) (data,a,m,b,cmp,mid,n_,start,r,p,()) =
 tif ((decide (start<r))) (
 a0b (at? data (IntKind.wrap .i64 (p-(IntKind.wrap .i64 (shrI .u64 (IntKind.wrap .u64 (IntKind.wrap .i64 (start+r))) (1:Int)))))) fun r0 =>
 a0b ((data)[(Int.toNat (IntKind.wrap .i64 (p-(IntKind.wrap .i64 (shrI .u64 (IntKind.wrap .u64 (IntKind.wrap .i64 (start+r))) (1:Int))))))]?) fun r1 =>
 a0b (at? data (IntKind.wrap .i64 (shrI .u64 (IntKind.wrap .u64 (IntKind.wrap .i64 (start+r))) (1:Int)))) fun r2 =>
 a0b ((data)[(Int.toNat (IntKind.wrap .i64 (shrI .u64 (IntKind.wrap .u64 (IntKind.wrap .i64 (start+r))) (1:Int))))]?) fun r3 =>
 a0b (cmp (r1,(r3,()))) fun r4 =>
 tif ((!(decide (r4<0)))) (
 i0h n f (data,(a,(m,(b,(cmp,(mid,(n_,((IntKind.wrap .i64 ((IntKind.wrap .i64 (shrI .u64 (IntKind.wrap .u64 (IntKind.wrap .i64 (start+r))) (1:Int)))+1)),(r,(p,()))))))))))) (
 i0h n f (data,(a,(m,(b,(cmp,(mid,(n_,(start,((IntKind.wrap .i64 (shrI .u64 (IntKind.wrap .u64 (IntKind.wrap .i64 (start+r))) (1:Int))),(p,())))))))))))) (
 some (.inl (data,(a,(m,(b,(cmp,(mid,(n_,(start,())))))))))):=by kernel_rfl
theorem b2n (n:Nat) (data:(List a0d)) (a:Int) (m:Int) (b:Int) (cmp:((a0d×(a0d×Unit))→Option Int)):b1p (n+1) data a m b cmp =
 a0b (n0i n a0c (data,(m,(cmp,((IntKind.wrap .i64 (m-a)),((IntKind.wrap .i64 (b-m)),())))))) fun r0 =>
 b0s (fun y1 =>
 a0b (b1o n y1.1 (IntKind.wrap .i64 (y1.2.1-y1.2.2.2.1)) y1.2.1 y1.2.2.2.1 y1.2.2.1) fun r2 =>
 some r2) (fun z3 =>
 some z3) r0:=by kernel_rfl
theorem m1g (n f:Nat) (data:(List a0d)) (m:Int) (cmp:((a0d×(a0d×Unit))→Option Int)) (i:Int) (j:Int):n0i n (f+1) (data,m,cmp,i,j,()) =
 tif ((!(decide (i=j)))) (
 tif ((decide (j<i))) (
 a0b (b1o n data (IntKind.wrap .i64 (m-i)) m j cmp) fun r0 =>
 n0i n f (r0,(m,(cmp,((IntKind.wrap .i64 (i-j)),(j,())))))) (
 a0b (b1o n data (IntKind.wrap .i64 (m-i)) (IntKind.wrap .i64 ((IntKind.wrap .i64 (m+j))-i)) i cmp) fun r1 =>
 n0i n f (r1,(m,(cmp,(i,((IntKind.wrap .i64 (j-i)),()))))))) (
 some (.inl (data,(m,(cmp,(i,())))))):=by kernel_rfl
theorem b2l (n:Nat) (data:(List a0d)) (a:Int) (b:Int) (n_:Int) (cmp:((a0d×(a0d×Unit))→Option Int)):b1o (n+1) data a b n_ cmp =
 a0b (s0e n a0c (data,(a,(b,(n_,(0,())))))) fun r0 =>
 b0s (fun y1 =>
 some y1.1) (fun z2 =>
 some z2) r0:=by kernel_rfl
theorem v0g (n f:Nat) (data:(List a0d)) (a:Int) (b:Int) (n_:Int) (i:Int):s0e n (f+1) (data,a,b,n_,i,()) =
 tif ((decide (i<n_))) (
 a0b (at? data (IntKind.wrap .i64 (b+i))) fun r0 =>
 a0b ((data)[(Int.toNat (IntKind.wrap .i64 (b+i)))]?) fun r1 =>
 a0b (at? data (IntKind.wrap .i64 (a+i))) fun r2 =>
 a0b ((data)[(Int.toNat (IntKind.wrap .i64 (a+i)))]?) fun r3 =>
 a0b (at? data (IntKind.wrap .i64 (a+i))) fun r4 =>
 a0b ((data)[(Int.toNat (IntKind.wrap .i64 (a+i)))]?) fun r5 =>
 a0b (at? (List.set data (Int.toNat (IntKind.wrap .i64 (a+i))) r1) (IntKind.wrap .i64 (b+i))) fun r6 =>
 a0b (((List.set data (Int.toNat (IntKind.wrap .i64 (a+i))) r1))[(Int.toNat (IntKind.wrap .i64 (b+i)))]?) fun r7 =>
 s0e n f ((List.set (List.set data (Int.toNat (IntKind.wrap .i64 (a+i))) r1) (Int.toNat (IntKind.wrap .i64 (b+i))) r3),(a,(b,(n_,((IntKind.wrap .i64 (i+1)),())))))) (
 some (.inl (data,()))):=by kernel_rfl
end Go.Proofs.YtgkpkajaepphjaaGreatDoor
