/- Trees, printed by program. -/
import Derived.Test.YtagnkfbpgkckiaaGreatTr0
import Derived.KernelRfl
set_option linter.unusedVariables false
namespace Go.Proofs.YtagnkfbpgkckiaaGreat
open Go.Flat
theorem v0i (n f:Nat) (a:(List (List UInt8×List UInt8))) (b:(List (List UInt8×List UInt8))) (s12:Int) (s13:Int):w0a n (f+1) (a,b,s12,s13,()) =
 tif ((decide (s13<s12))) (
 a0a (at? a s13) fun r0 =>
 a0a (at? b s13) fun r1 =>
 tif ((!((r0.1==r1.1)&&(r0.2==r1.2)))) (
 some (.inr false)) (
 w0a n f (a,(b,(s12,((IntKind.wrap .i64 (s13+1)),())))))) (
 some (.inl ())):=by kernel_rfl
theorem i1u (n:Nat) (n_:Int) (low:Int) (high:Int):g0o (n+1) n_ low high =
 tif ((decide (low≤n_))) (
 some (decide (n_≤high))) (
 some false):=by kernel_rfl
theorem c1u (n:Nat) (n_:Int) (low:Int) (high:Int):j0e (n+1) n_ low high =
 tif ((decide (low≤n_))) (
 some (decide (n_≤high))) (
 some false):=by kernel_rfl
theorem r0z (n:Nat) (x:Int) (y:Int):r0d (n+1) x y =
 a0a (g0h n x y) fun r0 =>
 some r0:=by kernel_rfl
theorem h1g (n:Nat) (c:b0k) (s:b0d):q0q (n+1) c s =
 a0a (a1w n c s.2.2.2.1) fun r0 =>
 tif ((!(decide (r0=0)))) (
 some (none,2)) (
 a0a (i0h n s.1) fun r1 =>
 tif ((!(decide (r1=0)))) (
 some (none,2)) (
 a0a (y0a n s.2.2.1 c.1) fun r2 =>
 tif ((!(decide (r2=0)))) (
 some (none,2)) (
 tif ((decide (s.2.1=((-1):Int)))) (
 a0a (e1g n (c,s)) fun r3 =>
 tif (r3) (
 some ((some (c,s)),0)) (
 tif ((!(decide (s.2.1=((-1):Int))))) (
 a0a (d1c n (c,s)) fun r4 =>
 tif (r4) (
 some ((some (c,s)),0)) (
 some (none,2))) (
 some (none,2)))) (
 tif ((!(decide (s.2.1=((-1):Int))))) (
 a0a (d1c n (c,s)) fun r5 =>
 tif (r5) (
 some ((some (c,s)),0)) (
 some (none,2))) (
 some (none,2)))))):=by kernel_rfl
theorem i1b (n:Nat) (l:(List (List UInt8×List UInt8))):w0d (n+1) l =
 a0a (i0h n l) fun r0 =>
 tif ((!(decide (r0=0)))) (
 some ([],r0)) (
 a0a (h0d n [] (IntKind.wrap .u64 (((List.length l):Nat):Int))) fun r1 =>
 a0a (k0h n a0b (r1,(l,((((List.length l):Nat):Int),(0,()))))) fun r2 =>
 b0z (fun y3 =>
 a0a (c0r n y3.1) fun r4 =>
 some (r4.1,0)) (fun z5 =>
 some z5) r2):=by kernel_rfl
theorem p0m (n f:Nat) (w:(List Int)) (s17:(List (List UInt8×List UInt8))) (s18:Int) (s19:Int):k0h n (f+1) (w,s17,s18,s19,()) =
 tif ((decide (s19<s18))) (
 a0a (at? s17 s19) fun r0 =>
 a0a (h0e n w r0.1) fun r1 =>
 a0a (h0e n r1 r0.2) fun r2 =>
 k0h n f (r2,(s17,(s18,((IntKind.wrap .i64 (s19+1)),()))))) (
 some (.inl (w,()))):=by kernel_rfl
theorem q1r (n:Nat) (c:b0k):y0c (n+1) c =
 a0a (p0g n c.1 (16:Int)) fun r0 =>
 a0a (p0g n c.2.2.1.1 (4:Int)) fun r1 =>
 a0a (p0g n c.2.2.1.2.1 (4:Int)) fun r2 =>
 a0a (p0g n c.2.2.1.2.2 (4:Int)) fun r3 =>
 some (IntKind.wrap .i64 ((IntKind.wrap .i64 ((IntKind.wrap .i64 ((IntKind.wrap .i64 ((1:Int)+r0))+r1))+r2))+r3)):=by kernel_rfl
theorem c0q (n:Nat) (r:(List UInt8×Bool)):b0t (n+1) r =
 some ([],true):=by kernel_rfl
theorem i0j (n:Nat) (r:(List UInt8×Bool)) (n_:Int):d0m (n+1) r n_ =
 tif (r.2) (
 a0a (b0t n r) fun r0 =>
 some ([],r0)) (
 tif ((decide (n_<0))) (
 a0a (b0t n r) fun r1 =>
 some ([],r1)) (
 tif ((decide ((((List.length r.1):Nat):Int)<n_))) (
 a0a (b0t n r) fun r2 =>
 some ([],r2)) (
 tif (((decide ((0:Int)≤n_))&&(decide (n_≤(((List.length r.1):Nat):Int))))) (
 tif ((decide ((0:Int)≤n_))) (
 tif ((decide ((Int.toNat n_)≤(List.length r.1)))) (
 some ((List.drop 0 (List.take (Int.toNat n_) r.1)),((List.drop (Int.toNat n_) (List.take (List.length r.1) r.1)),r.2))) (
 none)) (
 none)) (
 none)))):=by kernel_rfl
theorem o0r (n:Nat) (s:(List (List UInt8))) (f_:((List UInt8×Unit)→Option Bool)):j0m (n+1) s f_ =
 a0a (m0o n s f_) fun r0 =>
 some (decide ((0:Int)≤r0)):=by kernel_rfl
theorem c1r (n:Nat) (s:List UInt8):l0s (n+1) s =
 some (!(decide ((((List.length s):Nat):Int)=512))):=by kernel_rfl
theorem w0h (n:Nat) (p:b0b) (n_:Int) (each:Int):c0e (n+1) p n_ each =
 tif ((decide (each=0))) (
 none) (
 tif (((decide ((0:Int)≤(if (((List.length p.2):Nat):Int)<(IntKind.wrap .i64 (Int.tdiv (IntKind.wrap .i64 ((IntKind.wrap .i64 (n_+each))-1)) each)) then (((List.length p.2):Nat):Int) else (IntKind.wrap .i64 (Int.tdiv (IntKind.wrap .i64 ((IntKind.wrap .i64 (n_+each))-1)) each)))))&&(decide ((if (((List.length p.2):Nat):Int)<(IntKind.wrap .i64 (Int.tdiv (IntKind.wrap .i64 ((IntKind.wrap .i64 (n_+each))-1)) each)) then (((List.length p.2):Nat):Int) else (IntKind.wrap .i64 (Int.tdiv (IntKind.wrap .i64 ((IntKind.wrap .i64 (n_+each))-1)) each)))≤(((List.length p.2):Nat):Int))))) (
 a0a (strings_Join n (List.drop 0 (List.take (Int.toNat (if (((List.length p.2):Nat):Int)<(IntKind.wrap .i64 (Int.tdiv (IntKind.wrap .i64 ((IntKind.wrap .i64 (n_+each))-1)) each)) then (((List.length p.2):Nat):Int) else (IntKind.wrap .i64 (Int.tdiv (IntKind.wrap .i64 ((IntKind.wrap .i64 (n_+each))-1)) each)))) p.2)) []) fun r0 =>
 tif ((decide ((0:Int)≤(if (((List.length p.2):Nat):Int)<(IntKind.wrap .i64 (Int.tdiv (IntKind.wrap .i64 ((IntKind.wrap .i64 (n_+each))-1)) each)) then (((List.length p.2):Nat):Int) else (IntKind.wrap .i64 (Int.tdiv (IntKind.wrap .i64 ((IntKind.wrap .i64 (n_+each))-1)) each)))))) (
 tif ((decide ((Int.toNat (if (((List.length p.2):Nat):Int)<(IntKind.wrap .i64 (Int.tdiv (IntKind.wrap .i64 ((IntKind.wrap .i64 (n_+each))-1)) each)) then (((List.length p.2):Nat):Int) else (IntKind.wrap .i64 (Int.tdiv (IntKind.wrap .i64 ((IntKind.wrap .i64 (n_+each))-1)) each))))≤(List.length p.2)))) (
 some (r0,(p.1,(List.drop (Int.toNat (if (((List.length p.2):Nat):Int)<(IntKind.wrap .i64 (Int.tdiv (IntKind.wrap .i64 ((IntKind.wrap .i64 (n_+each))-1)) each)) then (((List.length p.2):Nat):Int) else (IntKind.wrap .i64 (Int.tdiv (IntKind.wrap .i64 ((IntKind.wrap .i64 (n_+each))-1)) each)))) (List.take (List.length p.2) p.2))))) (
 none)) (
 none)) (
 none)):=by kernel_rfl
theorem f1l (n:Nat) (s:List UInt8):y0n (n+1) s =
 a0a (k0b n s) fun r0 =>
 a0a (c0z n r0) fun r1 =>
 a0a (m0y n a0b (r1.2,([],(r1.1,())))) fun r2 =>
 b0z (fun y3 =>
 a0a (i0g n y3.1) fun r4 =>
 tif (r4) (
 some ([],4)) (
 a0a (k0a n y3.1) fun r5 =>
 tif ((decide ((0:Int)<r5))) (
 some ([],4)) (
 a0a (i0h n y3.2.1) fun r6 =>
 tif ((!(decide (r6=0)))) (
 some ([],4)) (
 some (y3.2.1,0))))) (fun z7 =>
 some z7) r2:=by kernel_rfl
theorem k0g (n f:Nat) (r:(List UInt8×Bool)) (out:(List (List UInt8×List UInt8))) (n_:Int):m0y n (f+1) (r,out,n_,()) =
 tif ((decide ((0:Int)<n_))) (
 a0a (i0g n r) fun r0 =>
 tif ((!r0)) (
 tif ((decide ((((List.length out):Nat):Int)≤16))) (
 a0a (f0e n r (64:Int)) fun r1 =>
 a0a (f0e n r1.2 (128:Int)) fun r2 =>
 tif ((decide ((((List.length out)+1)*32)≤140737488355328))) (
 m0y n f (r2.2,((out++((r1.1,r2.1)::[])),((IntKind.wrap .u64 (n_-1)),())))) (
 none)) (
 some (.inl (r,(out,()))))) (
 some (.inl (r,(out,()))))) (
 some (.inl (r,(out,())))):=by kernel_rfl
theorem a1r (n:Nat) (s:List UInt8):k0j (n+1) s =
 a0a (k0b n s) fun r0 =>
 a0a (a0e n r0 (8:Int)) fun r1 =>
 a0a (a0e n r1.2 (8:Int)) fun r2 =>
 a0a (g0i n r2.2) fun r3 =>
 a0a (g0i n r3.2) fun r4 =>
 a0a (a0e n r4.2 (8:Int)) fun r5 =>
 a0a (a0e n r5.2 (8:Int)) fun r6 =>
 a0a (a0e n r6.2 (8:Int)) fun r7 =>
 a0a (a0e n r7.2 (8:Int)) fun r8 =>
 a0a (a0e n r8.2 (8:Int)) fun r9 =>
 some ((IntKind.wrap .i64 r1.1),((IntKind.wrap .i64 r2.1),(r3.1,(r4.1,((r5.1,r6.1),((IntKind.wrap .i64 r7.1),((IntKind.wrap .i64 r8.1),(IntKind.wrap .i64 r9.1)))))))):=by kernel_rfl
theorem y0s (n:Nat) (p:b0b) (r:(Int×(Int×(List a0j)))) (many:Int):n0f (n+1) p r many =
 a0a (c0e n p p.1.1 (16:Int)) fun r0 =>
 tif ((decide (r.1<0))) (
 some (r,r0.2)) (
 tif ((decide (r0.2.1.1<many))) (
 some (r,r0.2)) (
 a0a (e0j n a0b (r0.2,(r,((0,(0,[])),(r0.1,(r0.2.1.1,(many,(0,())))))))) fun r1 =>
 b0z (fun y2 =>
 some (y2.2.1,y2.1)) (fun z3 =>
 some z3) r1)):=by kernel_rfl
theorem k0w (n f:Nat) (p:b0b) (r_:(Int×(Int×(List a0j)))) (s6:(Int×(Int×(List a0j)))) (all:List UInt8) (room:Int) (s36:Int) (s37:Int):e0j n (f+1) (p,r_,s6,all,room,s36,s37,()) =
 tif ((decide (s37<s36))) (
 tif ((decide (room=0))) (
 none) (
 tif ((decide (room=0))) (
 none) (
 tif ((decide ((0:Int)≤(IntKind.wrap .i64 ((32:Int)*(Int.tmod (IntKind.wrap .i64 ((Int.tmod r_.1 room)+s37)) room)))))) (
 tif ((decide ((Int.toNat (IntKind.wrap .i64 ((32:Int)*(Int.tmod (IntKind.wrap .i64 ((Int.tmod r_.1 room)+s37)) room))))≤(List.length all)))) (
 a0a (k0b n (List.drop (Int.toNat (IntKind.wrap .i64 ((32:Int)*(Int.tmod (IntKind.wrap .i64 ((Int.tmod r_.1 room)+s37)) room)))) (List.take (List.length all) all))) fun r0 =>
 a0a (g0i n r0) fun r1 =>
 tif ((decide ((((List.length r_.2.2)+1)*32)≤140737488355328))) (
 e0j n f (p,((r_.1,(r_.2.1,(r_.2.2++(r1.1::[])))),(s6,(all,(room,(s36,((IntKind.wrap .i64 (s37+1)),())))))))) (
 none)) (
 none)) (
 none)))) (
 some (.inl (p,(r_,(s6,()))))):=by kernel_rfl
theorem w0g (n:Nat) (p:b0b) (n_:Int):f0s (n+1) p n_ =
 a0a (c0e n p n_ (4:Int)) fun r0 =>
 tif (((decide ((0:Int)≤n_))&&((decide (n_≤n_))&&(decide ((n_*120)≤140737488355328))))) (
 a0a (d0x n a0b (r0.2,(r0.1,((List.replicate (Int.toNat n_) ((0:Int),((0:Int),(((0:Int),((0:Int),((0:Int),false))),(((0:Int),((0:Int),((0:Int),false))),(((0:Int),(0:Int)),((0:Int),((0:Int),(0:Int))))))))),((((List.length (List.replicate (Int.toNat n_) ((0:Int),((0:Int),(((0:Int),((0:Int),((0:Int),false))),(((0:Int),((0:Int),((0:Int),false))),(((0:Int),(0:Int)),((0:Int),((0:Int),(0:Int)))))))))):Nat):Int),((0:Int),())))))) fun r1 =>
 b0z (fun y2 =>
 some (y2.2.1,y2.1)) (fun z3 =>
 some z3) r1) (
 none):=by kernel_rfl
theorem j0o (n f:Nat) (p:b0b) (all:List UInt8) (out:(List a0c)) (s14:Int) (s15:Int):d0x n (f+1) (p,all,out,s14,s15,()) =
 tif ((decide (s15<s14))) (
 tif ((decide ((0:Int)≤(IntKind.wrap .i64 ((128:Int)*s15))))) (
 tif ((decide ((Int.toNat (IntKind.wrap .i64 ((128:Int)*s15)))≤(List.length all)))) (
 a0a (k0j n (List.drop (Int.toNat (IntKind.wrap .i64 ((128:Int)*s15))) (List.take (List.length all) all))) fun r0 =>
 a0a (at? out s15) fun r1 =>
 a0a ((out)[(Int.toNat s15)]?) fun r2 =>
 d0x n f (p,(all,((List.set out (Int.toNat s15) r0),(s14,((IntKind.wrap .i64 (s15+1)),())))))) (
 none)) (
 none)) (
 some (.inl (p,(out,())))):=by kernel_rfl
theorem u1o (n:Nat) (t:Int):x0h (n+1) t =
 tif ((decide ((0:Int)≤t))) (
 some (decide (t<35184372088832))) (
 some false):=by kernel_rfl
theorem p1z (n:Nat) (s:b0d):x0i (n+1) s =
 a0a (d0w n s ([],(0,((0,(0,[])),(([],([],[])),(0,(0,((0,(0,(0,false))),((0,(0,(0,false))),((0,0),(0,(0,0)))))))))))) fun r0 =>
 some r0:=by kernel_rfl
theorem c1l (n:Nat) (v:a0v):l0p (n+1) v =
 tif ((decide (v.1.2.1.1=0))) (
 none) (
 some (IntKind.wrap .i64 (v.2.1-(Int.tmod v.2.1 v.1.2.1.1)))):=by kernel_rfl
theorem c1k (n:Nat) (v:a0v) (i:Int):q0h (n+1) v i =
 a0a (e0o n v (fun y0=>g0g n y0.1 i v)) fun r1 =>
 tif ((decide (r1<i))) (
 a0a (e0p n v i) fun r2 =>
 some r2) (
 some false):=by kernel_rfl
theorem v1n (n:Nat) (a:(Int×(Int×(List a0j)))) (b:(Int×(Int×(List a0j)))):y1k (n+1) a b =
 tif ((decide (a.1=b.1))) (
 tif ((decide (a.2.1=b.2.1))) (
 a0a (o0q n a.2.2 b.2.2) fun r0 =>
 some r0) (
 some false)) (
 some false):=by kernel_rfl
theorem c1m (n:Nat) (s1:(List a0c)) (s2:(List a0c)):i0y (n+1) s1 s2 =
 tif ((!(decide ((((List.length s1):Nat):Int)=(((List.length s2):Nat):Int))))) (
 some false) (
 a0a (i0d n a0b (s1,(s2,((((List.length s1):Nat):Int),(0,()))))) fun r0 =>
 b0z (fun y1 =>
 some true) (fun z2 =>
 some z2) r0):=by kernel_rfl
theorem m0p (n f:Nat) (s1:(List a0c)) (s2:(List a0c)) (s12:Int) (s13:Int):i0d n (f+1) (s1,s2,s12,s13,()) =
 tif ((decide (s13<s12))) (
 a0a (at? s1 s13) fun r0 =>
 a0a (at? s2 s13) fun r1 =>
 tif ((!((decide (r0.1=r1.1))&&((decide (r0.2.1=r1.2.1))&&((decide (r0.2.2.1.1=r1.2.2.1.1))&&((decide (r0.2.2.1.2.1=r1.2.2.1.2.1))&&((decide (r0.2.2.1.2.2.1=r1.2.2.1.2.2.1))&&((r0.2.2.1.2.2.2==r1.2.2.1.2.2.2)&&((decide (r0.2.2.2.1.1=r1.2.2.2.1.1))&&((decide (r0.2.2.2.1.2.1=r1.2.2.2.1.2.1))&&((decide (r0.2.2.2.1.2.2.1=r1.2.2.2.1.2.2.1))&&((r0.2.2.2.1.2.2.2==r1.2.2.2.1.2.2.2)&&((decide (r0.2.2.2.2.1.1=r1.2.2.2.2.1.1))&&((decide (r0.2.2.2.2.1.2=r1.2.2.2.2.1.2))&&((decide (r0.2.2.2.2.2.1=r1.2.2.2.2.2.1))&&((decide (r0.2.2.2.2.2.2.1=r1.2.2.2.2.2.2.1))&&(decide (r0.2.2.2.2.2.2.2=r1.2.2.2.2.2.2.2)))))))))))))))))) (
 some (.inr false)) (
 i0d n f (s1,(s2,(s12,((IntKind.wrap .i64 (s13+1)),())))))) (
 some (.inl ())):=by kernel_rfl
theorem o1l (n:Nat) (n_:Int) (by_:Int):m0e (n+1) n_ by_ =
 tif ((decide (by_=0))) (
 none) (
 some (IntKind.wrap .i64 (Int.tdiv (IntKind.wrap .i64 ((IntKind.wrap .i64 (n_+by_))-1)) by_))):=by kernel_rfl
theorem u0p (n:Nat) (s:(List Int)) (del:((Int×Unit)→Option Bool)):j0s (n+1) s del =
 a0a (r0v n s del) fun r0 =>
 tif ((decide (r0=((-1):Int)))) (
 some s) (
 a0a (d0p n a0b (s,(del,(r0,((IntKind.wrap .i64 (r0+1)),()))))) fun r1 =>
 b0z (fun y2 =>
 tif ((decide ((0:Int)≤y2.2.1))) (
 tif ((decide ((Int.toNat y2.2.1)≤(List.length y2.1)))) (
 tif ((decide (((Int.toNat y2.2.1)+((List.length y2.1)-(Int.toNat y2.2.1)))≤(List.length y2.1)))) (
 tif (((decide ((0:Int)≤y2.2.1))&&(decide (y2.2.1≤(((List.length (Go.Flat.putRow y2.1 (Int.toNat y2.2.1) (List.replicate ((List.length y2.1)-(Int.toNat y2.2.1)) (0:Int)))):Nat):Int))))) (
 some (List.take ((Int.toNat y2.2.1)-0) (Go.Flat.putRow y2.1 (Int.toNat y2.2.1) (List.replicate ((List.length y2.1)-(Int.toNat y2.2.1)) (0:Int))))) (
 none)) (
 none)) (
 none)) (
 none)) (fun z3 =>
 some z3) r1):=by kernel_rfl
theorem i0z (n f:Nat) (s:(List Int)) (del:((Int×Unit)→Option Bool)) (i:Int) (j:Int):d0p n (f+1) (s,del,i,j,()) =
 tif ((decide (j<(((List.length s):Nat):Int)))) (
 a0a (at? s j) fun r0 =>
 a0a ((s)[(Int.toNat j)]?) fun r1 =>
 a0a (del (r1,())) fun r2 =>
 tif ((!r2)) (
 a0a (at? s i) fun r3 =>
 a0a ((s)[(Int.toNat i)]?) fun r4 =>
 d0p n f ((List.set s (Int.toNat i) r1),(del,((IntKind.wrap .i64 (i+1)),((IntKind.wrap .i64 (j+1)),()))))) (
 d0p n f (s,(del,(i,((IntKind.wrap .i64 (j+1)),())))))) (
 some (.inl (s,(i,())))):=by kernel_rfl
theorem u1t (n:Nat) (s:a0v):l1u (n+1) s =
 a0a (q0i n s) fun r0 =>
 tif ((!(decide (r0.2=0)))) (
 some []) (
 a0a (j0p n a0b (r0.1,([],((((List.length r0.1.2.2.2):Nat):Int),(0,()))))) fun r1 =>
 b0z (fun y2 =>
 some y2.1) (fun z3 =>
 some z3) r1):=by kernel_rfl
theorem u0y (n f:Nat) (v:a0v) (out:(List Int)) (s17:Int) (s18:Int):j0p n (f+1) (v,out,s17,s18,()) =
 tif ((decide (s18<s17))) (
 a0a (e0p n v s18) fun r0 =>
 tif (r0) (
 tif ((decide ((((List.length out)+1)*8)≤140737488355328))) (
 j0p n f (v,((out++(s18::[])),(s17,((IntKind.wrap .i64 (s18+1)),()))))) (
 none)) (
 j0p n f (v,(out,(s17,((IntKind.wrap .i64 (s18+1)),())))))) (
 some (.inl (out,()))):=by kernel_rfl
theorem g1z (n:Nat) (i:Int) (p1:a0v):m0k (n+1) i p1 =
 a0a (at? p1.2.2.2 i) fun r0 =>
 a0a (q0r n p1.1 r0.2.1 p1.2.1) fun r1 =>
 some (!r1):=by kernel_rfl
theorem h1j (n:Nat) (c:b0k) (last:Int) (now:Int):q0r (n+1) c last now =
 a0a (d0l n c) fun r0 =>
 tif ((decide (r0=0))) (
 a0a (d1s n last now c.2.1.1 c.2.2.1.1) fun r1 =>
 tif (r1) (
 a0a (d1s n last now c.2.1.2.1 c.2.2.1.2.1) fun r2 =>
 tif (r2) (
 a0a (d1s n last now c.2.1.2.2 c.2.2.1.2.2) fun r3 =>
 tif (r3) (
 some r3) (
 some r3)) (
 some r2)) (
 some r1)) (
 some (decide (r0=0))):=by kernel_rfl
theorem i1a (n:Nat) (l:(List (List UInt8×List UInt8))):i0h (n+1) l =
 tif ((decide ((((List.length l):Nat):Int)=0))) (
 some (8:Int)) (
 tif ((decide ((16:Int)<(((List.length l):Nat):Int)))) (
 some (8:Int)) (
 a0a (f0v n a0b (l,(256,(l,((((List.length l):Nat):Int),(0,())))))) fun r0 =>
 b0z (fun y1 =>
 some (0:Int)) (fun z2 =>
 some z2) r0)):=by kernel_rfl
theorem p0l (n f:Nat) (l:(List (List UInt8×List UInt8))) (left:Int) (s14:(List (List UInt8×List UInt8))) (s15:Int) (s16:Int):f0v n (f+1) (l,left,s14,s15,s16,()) =
 tif ((decide (s16<s15))) (
 a0a (at? s14 s16) fun r0 =>
 a0a (a1q n r0.1) fun r1 =>
 tif ((!r1)) (
 some (.inr (8:Int))) (
 tif ((decide ((128:Int)<(((List.length r0.2):Nat):Int)))) (
 some (.inr (8:Int))) (
 tif ((decide ((IntKind.wrap .i64 (left-(IntKind.wrap .i64 ((((List.length r0.1):Nat):Int)+(((List.length r0.2):Nat):Int)))))<0))) (
 some (.inr (8:Int))) (
 tif ((decide ((0:Int)<s16))) (
 a0a (at? l (IntKind.wrap .i64 (s16-1))) fun r2 =>
 tif ((!(Go.Op.bytesLess r2.1 r0.1))) (
 some (.inr (8:Int))) (
 f0v n f (l,((IntKind.wrap .i64 (left-(IntKind.wrap .i64 ((((List.length r0.1):Nat):Int)+(((List.length r0.2):Nat):Int))))),(s14,(s15,((IntKind.wrap .i64 (s16+1)),()))))))) (
 f0v n f (l,((IntKind.wrap .i64 (left-(IntKind.wrap .i64 ((((List.length r0.1):Nat):Int)+(((List.length r0.2):Nat):Int))))),(s14,(s15,((IntKind.wrap .i64 (s16+1)),())))))))))) (
 some (.inl ())):=by kernel_rfl
theorem i1r (n:Nat) (e:a0j):e0r (n+1) e =
 tif ((decide (e.1<0))) (
 some (2:Int)) (
 tif ((decide ((35184372088832:Int)≤e.1))) (
 some (2:Int)) (
 tif ((decide (e.2.2.1<0))) (
 some (2:Int)) (
 tif ((decide (e.1<e.2.2.1))) (
 some (2:Int)) (
 tif (e.2.2.2) (
 tif ((!((decide (e.1=e.1))&&((decide (e.2.1=0))&&((decide (e.2.2.1=0))&&(e.2.2.2==true)))))) (
 some (2:Int)) (
 some (0:Int))) (
 some (0:Int)))))):=by kernel_rfl
theorem m1e (n:Nat) (s:a0v):a1b (n+1) s =
 a0a (h0x n s) fun r0 =>
 tif ((!(decide (r0=0)))) (
 some (0,0)) (
 a0a (l1t n s) fun r1 =>
 some (r1,(if (35184372088832:Int)<(IntKind.wrap .i64 (r1+s.1.2.1.1)) then (35184372088832:Int) else (IntKind.wrap .i64 (r1+s.1.2.1.1))))):=by kernel_rfl
theorem u1r (n:Nat) (s:a0v):d1b (n+1) s =
 a0a (q0i n s) fun r0 =>
 tif ((!(decide (r0.2=0)))) (
 some (0,r0.2)) (
 a0a (e0o n r0.1 (fun y1=>g0s n y1.1 r0.1)) fun r2 =>
 tif ((decide (r2<0))) (
 some (0,7)) (
 some (r2,0))):=by kernel_rfl
theorem m1c (n:Nat) (c:b0k) (l:(List (List UInt8×List UInt8))):u0c (n+1) c l =
 a0a (d0l n c) fun r0 =>
 tif ((!(decide (r0=0)))) (
 some (([],(0,((0,(0,[])),(([],([],[])),(0,(0,((0,(0,(0,false))),((0,(0,(0,false))),((0,0),(0,(0,0))))))))))),r0)) (
 a0a (i0h n l) fun r1 =>
 tif ((!(decide (r1=0)))) (
 some (([],(0,((0,(0,[])),(([],([],[])),(0,(0,((0,(0,(0,false))),((0,(0,(0,false))),((0,0),(0,(0,0))))))))))),r1)) (
 a0a (o0s n l) fun r2 =>
 a0a (a1u n c) fun r3 =>
 some ((r2,(((-1):Int),((0,(0,[])),(r3,(0,(0,((0,(0,(0,false))),((0,(0,(0,false))),((0,0),(0,(0,0))))))))))),0))):=by kernel_rfl
theorem u1x (n:Nat) (s:d0g) (i:Int):l1w (n+1) s i =
 tif ((decide (s.2.2.2.2.2.1=i))) (
 some (0,s)) (
 tif ((decide (s.2.2.2.2.2.2.1=0))) (
 some (0,s)) (
 a0a (a1v n s.1 s.2.2.2.2.1 s.2.2.2.2.2 i) fun r0 =>
 tif ((decide (r0.2=0))) (
 some (r0.2,(s.1,(s.2.1,(s.2.2.1,(s.2.2.2.1,(r0.1,(0,(0,((0,(0,(0,false))),((0,(0,(0,false))),((0,0),(0,(0,0)))))))))))))) (
 some (r0.2,s)))):=by kernel_rfl
theorem a2s (n:Nat) (s:d0g) (i:Int) (e:a0j):f2o (n+1) s i e =
 a0a (v1o n s.2.2.2.1 s.1.1 e) fun r0 =>
 a0a (o1w n s.2.2.2.2.2.2 e) fun r1 =>
 tif ((!(decide (r0.2=0)))) (
 some (r0.2,s)) (
 some (r1.2,(s.1,(s.2.1,(e.1,(r0.1,(s.2.2.2.2.1,(i,r1.1)))))))):=by kernel_rfl
theorem z0u (n:Nat) (s1:(List (List UInt8×List UInt8))) (s2:(List (List UInt8×List UInt8))):o0p (n+1) s1 s2 =
 tif ((!(decide ((((List.length s1):Nat):Int)=(((List.length s2):Nat):Int))))) (
 some false) (
 a0a (g0u n a0b (s1,(s2,((((List.length s1):Nat):Int),(0,()))))) fun r0 =>
 b0z (fun y1 =>
 some true) (fun z2 =>
 some z2) r0):=by kernel_rfl
theorem l0j (n f:Nat) (s1:(List (List UInt8×List UInt8))) (s2:(List (List UInt8×List UInt8))) (s12:Int) (s13:Int):g0u n (f+1) (s1,s2,s12,s13,()) =
 tif ((decide (s13<s12))) (
 a0a (at? s1 s13) fun r0 =>
 a0a (at? s2 s13) fun r1 =>
 tif ((!((r0.1==r1.1)&&(r0.2==r1.2)))) (
 some (.inr false)) (
 g0u n f (s1,(s2,(s12,((IntKind.wrap .i64 (s13+1)),())))))) (
 some (.inl ())):=by kernel_rfl
theorem y0l (n:Nat) (x:Int) (y:Int):g0h (n+1) x y =
 some ((IntKind.wrap .u64 ((IntKind.wrap .u64 ((IntKind.wrap .u64 ((shrI .u64 x (32:Int))*(shrI .u64 y (32:Int))))+(shrI .u64 (IntKind.wrap .u64 ((IntKind.wrap .u64 ((shrI .u64 x (32:Int))*(andI .u64 y (4294967295:Int))))+(shrI .u64 (IntKind.wrap .u64 ((andI .u64 x (4294967295:Int))*(andI .u64 y (4294967295:Int)))) (32:Int)))) (32:Int))))+(shrI .u64 (IntKind.wrap .u64 ((andI .u64 (IntKind.wrap .u64 ((IntKind.wrap .u64 ((shrI .u64 x (32:Int))*(andI .u64 y (4294967295:Int))))+(shrI .u64 (IntKind.wrap .u64 ((andI .u64 x (4294967295:Int))*(andI .u64 y (4294967295:Int)))) (32:Int)))) (4294967295:Int))+(IntKind.wrap .u64 ((andI .u64 x (4294967295:Int))*(shrI .u64 y (32:Int)))))) (32:Int)))),(IntKind.wrap .u64 (x*y))):=by kernel_rfl
theorem n1o (n:Nat) (c:b0k) (s:((List a0c)×((List a0c)×(List a0c)))):a1w (n+1) c s =
 a0a (y0y n c s) fun r0 =>
 f1d (r0.1) (
 some r0.2) fun r1 =>
 some r0.2:=by kernel_rfl
theorem q1q (n:Nat) (r:(Int×(Int×(List a0j)))) (room:Int):y0a (n+1) r room =
 tif ((decide (room<1))) (
 some (2:Int)) (
 tif ((decide ((4096:Int)<room))) (
 some (2:Int)) (
 tif ((decide (room<(((List.length r.2.2):Nat):Int)))) (
 some (2:Int)) (
 tif ((decide (r.1<0))) (
 some (2:Int)) (
 tif ((decide ((70368744177664:Int)<r.1))) (
 some (2:Int)) (
 a0a (a1f n r.2.2) fun r0 =>
 tif ((!r0)) (
 some (2:Int)) (
 a0a (j1s n r room) fun r1 =>
 tif ((!r1)) (
 some (2:Int)) (
 some (0:Int)))))))):=by kernel_rfl
theorem q1b (n:Nat) (s:d0g):e1g (n+1) s =
 tif ((decide ((((List.length s.2.2.2.1.2.2):Nat):Int)=0))) (
 tif (((decide (s.2.2.2.2.2.1=0))&&((decide (s.2.2.2.2.2.2.1=0))&&((decide (s.2.2.2.2.2.2.2.1.1=0))&&((decide (s.2.2.2.2.2.2.2.1.2.1=0))&&((decide (s.2.2.2.2.2.2.2.1.2.2.1=0))&&((s.2.2.2.2.2.2.2.1.2.2.2==false)&&((decide (s.2.2.2.2.2.2.2.2.1.1=0))&&((decide (s.2.2.2.2.2.2.2.2.1.2.1=0))&&((decide (s.2.2.2.2.2.2.2.2.1.2.2.1=0))&&((s.2.2.2.2.2.2.2.2.1.2.2.2==false)&&((decide (s.2.2.2.2.2.2.2.2.2.1.1=0))&&((decide (s.2.2.2.2.2.2.2.2.2.1.2=0))&&((decide (s.2.2.2.2.2.2.2.2.2.2.1=0))&&((decide (s.2.2.2.2.2.2.2.2.2.2.2.1=0))&&(decide (s.2.2.2.2.2.2.2.2.2.2.2.2=0))))))))))))))))) (
 a0a (e0h n s.2.2.2.2.1.1 (0:Int)) fun r0 =>
 tif ((!r0)) (
 a0a (e0h n s.2.2.2.2.1.2.1 (0:Int)) fun r1 =>
 tif ((!r1)) (
 a0a (e0h n s.2.2.2.2.1.2.2 (0:Int)) fun r2 =>
 some (!r2)) (
 some false)) (
 some false)) (
 some false)) (
 some false):=by kernel_rfl
theorem u1y (n:Nat) (s:d0g):d1c (n+1) s =
 a0a (d1d n s.2.2.2.1) fun r0 =>
 tif ((decide (r0.2=0))) (
 tif ((decide (r0.1.1=s.2.2.1))) (
 tif ((decide (s.2.2.2.2.2.2.2.2.1.1=s.2.2.1))) (
 a0a (m0j n s.2.2.2.2.2.2 s.1.2.1.1 s.2.2.2.2.2.1) fun r1 =>
 tif (r1) (
 tif ((decide (s.1.2.1.1=0))) (
 none) (
 a0a (e0h n s.2.2.2.2.1.1 (IntKind.wrap .i64 (Int.tdiv s.2.2.1 s.1.2.1.1))) fun r2 =>
 tif ((!r2)) (
 tif ((decide (s.1.2.1.2.1=0))) (
 none) (
 a0a (e0h n s.2.2.2.2.1.2.1 (IntKind.wrap .i64 (Int.tdiv s.2.2.1 s.1.2.1.2.1))) fun r3 =>
 tif ((!r3)) (
 tif ((decide (s.1.2.1.2.2=0))) (
 none) (
 a0a (e0h n s.2.2.2.2.1.2.2 (IntKind.wrap .i64 (Int.tdiv s.2.2.1 s.1.2.1.2.2))) fun r4 =>
 some (!r4))) (
 some false))) (
 some false))) (
 some false)) (
 some false)) (
 some false)) (
 some false):=by kernel_rfl
theorem u0s (n:Nat) (w:(List Int)) (n_:Int):h0d (n+1) w n_ =
 a0a (e0v n a0b (w,(n_,()))) fun r0 =>
 b0z (fun y1 =>
 tif ((decide ((((List.length y1.1)+1)*1)≤140737488355328))) (
 some (y1.1++((IntKind.wrap .u8 y1.2.1)::[]))) (
 none)) (fun z2 =>
 some z2) r0:=by kernel_rfl
theorem r0p (n f:Nat) (w:(List Int)) (n_:Int):e0v n (f+1) (w,n_,()) =
 tif ((decide ((128:Int)≤n_))) (
 tif ((decide ((((List.length w)+1)*1)≤140737488355328))) (
 e0v n f ((w++((orI .u8 (IntKind.wrap .u8 n_) (128:Int))::[])),((shrI .u64 n_ (7:Int)),()))) (
 none)) (
 some (.inl (w,(n_,())))):=by kernel_rfl
theorem u0t (n:Nat) (w:(List Int)) (s:List UInt8):h0e (n+1) w s =
 a0a (h0d n w (IntKind.wrap .u64 (((List.length s):Nat):Int))) fun r0 =>
 a0a (e0f n r0 s) fun r1 =>
 some r1:=by kernel_rfl
theorem q1s (n:Nat) (n_:Int) (each:Int):p0g (n+1) n_ each =
 a0a (n0y n a0b (n_,(each,(0,())))) fun r0 =>
 b0z (fun y1 =>
 some y1.1) (fun z2 =>
 some z2) r0:=by kernel_rfl
theorem s0t (n f:Nat) (n_:Int) (each:Int) (k:Int):n0y n (f+1) (n_,each,k,()) =
 tif ((decide ((0:Int)<n_))) (
 n0y n f ((IntKind.wrap .i64 (n_-each)),(each,((IntKind.wrap .i64 (k+1)),())))) (
 some (.inl (k,()))):=by kernel_rfl
theorem s0d (n:Nat) (s:(List (List UInt8))) (f_:((List UInt8×Unit)→Option Bool)):m0o (n+1) s f_ =
 a0a (c0t n a0b (s,(f_,((((List.length s):Nat):Int),(0,()))))) fun r0 =>
 b0z (fun y1 =>
 some ((-1):Int)) (fun z2 =>
 some z2) r0:=by kernel_rfl
theorem h0y (n f:Nat) (s:(List (List UInt8))) (f_:((List UInt8×Unit)→Option Bool)) (s7:Int) (s8:Int):c0t n (f+1) (s,f_,s7,s8,()) =
 tif ((decide (s8<s7))) (
 a0a (at? s s8) fun r0 =>
 a0a (f_ (r0,())) fun r1 =>
 tif (r1) (
 some (.inr s8)) (
 c0t n f (s,(f_,(s7,((IntKind.wrap .i64 (s8+1)),())))))) (
 some (.inl ())):=by kernel_rfl
theorem e1e (n:Nat) (elems:(List (List UInt8))) (sep:List UInt8):strings_Join (n+1) elems sep =
 tif ((decide ((((List.length elems):Nat):Int)=0))) (
 some []) (
 tif ((decide ((((List.length elems):Nat):Int)=1))) (
 a0a (at? elems (0:Int)) fun r0 =>
 some r0) (
 tif ((decide ((0:Int)<(((List.length sep):Nat):Int)))) (
 tif ((decide ((IntKind.wrap .i64 ((((List.length elems):Nat):Int)-1))=0))) (
 none) (
 tif ((decide ((IntKind.wrap .i64 (Int.tdiv (9223372036854775807:Int) (IntKind.wrap .i64 ((((List.length elems):Nat):Int)-1))))≤(((List.length sep):Nat):Int)))) (
 none) (
 a0a (f0p n a0b (elems,(sep,((IntKind.wrap .i64 ((0:Int)+(IntKind.wrap .i64 ((((List.length sep):Nat):Int)*(IntKind.wrap .i64 ((((List.length elems):Nat):Int)-1)))))),(elems,((((List.length elems):Nat):Int),((0:Int),()))))))) fun r1 =>
 b0z (fun y2 =>
 a0a (b0u n [] y2.2.2.1) fun r3 =>
 a0a (at? y2.1 (0:Int)) fun r4 =>
 a0a (a0m n r3 r4) fun r5 =>
 tif ((decide (1≤(List.length y2.1)))) (
 a0a (f0o n a0b (y2.2.1,(r5.2.2,((List.drop 1 (List.take (List.length y2.1) y2.1)),((((List.length (List.drop 1 (List.take (List.length y2.1) y2.1))):Nat):Int),((0:Int),())))))) fun r6 =>
 b0z (fun y7 =>
 a0a (b0n n y7.1) fun r8 =>
 some r8.1) (fun z9 =>
 some z9) r6) (
 none)) (fun z10 =>
 some z10) r1))) (
 a0a (f0p n a0b (elems,(sep,((0:Int),(elems,((((List.length elems):Nat):Int),((0:Int),()))))))) fun r11 =>
 b0z (fun y12 =>
 a0a (b0u n [] y12.2.2.1) fun r13 =>
 a0a (at? y12.1 (0:Int)) fun r14 =>
 a0a (a0m n r13 r14) fun r15 =>
 tif ((decide (1≤(List.length y12.1)))) (
 a0a (f0o n a0b (y12.2.1,(r15.2.2,((List.drop 1 (List.take (List.length y12.1) y12.1)),((((List.length (List.drop 1 (List.take (List.length y12.1) y12.1))):Nat):Int),((0:Int),())))))) fun r16 =>
 b0z (fun y17 =>
 a0a (b0n n y17.1) fun r18 =>
 some r18.1) (fun z19 =>
 some z19) r16) (
 none)) (fun z20 =>
 some z20) r11))):=by kernel_rfl
theorem m0m (n f:Nat) (elems:(List (List UInt8))) (sep:List UInt8) (n_:Int) (s39:(List (List UInt8))) (s40:Int) (s41:Int):f0p n (f+1) (elems,sep,n_,s39,s40,s41,()) =
 tif ((decide (s41<s40))) (
 a0a (at? s39 s41) fun r0 =>
 tif ((decide ((IntKind.wrap .i64 ((9223372036854775807:Int)-n_))<(((List.length r0):Nat):Int)))) (
 none) (
 f0p n f (elems,(sep,((IntKind.wrap .i64 (n_+(((List.length r0):Nat):Int))),(s39,(s40,((IntKind.wrap .i64 (s41+1)),())))))))) (
 some (.inl (elems,(sep,(n_,()))))):=by kernel_rfl
theorem m0l (n f:Nat) (sep:List UInt8) (b:List UInt8) (s63:(List (List UInt8))) (s64:Int) (s65:Int):f0o n (f+1) (sep,b,s63,s64,s65,()) =
 tif ((decide (s65<s64))) (
 a0a (at? s63 s65) fun r0 =>
 a0a (a0m n b sep) fun r1 =>
 a0a (a0m n r1.2.2 r0) fun r2 =>
 f0o n f (sep,(r2.2.2,(s63,(s64,((IntKind.wrap .i64 (s65+1)),())))))) (
 some (.inl (b,()))):=by kernel_rfl
theorem l0n (n:Nat) (r:(List UInt8×Bool)) (long:Int):f0e (n+1) r long =
 a0a (c0z n r) fun r0 =>
 tif ((decide (long<0))) (
 a0a (b0t n r0.2) fun r1 =>
 some ([],r1)) (
 tif ((decide ((IntKind.wrap .u64 long)<r0.1))) (
 a0a (b0t n r0.2) fun r2 =>
 some ([],r2)) (
 tif ((decide ((IntKind.wrap .u64 (((List.length r0.2.1):Nat):Int))<r0.1))) (
 a0a (b0t n r0.2) fun r3 =>
 some ([],r3)) (
 a0a (d0m n r0.2 (IntKind.wrap .i64 r0.1)) fun r4 =>
 some r4))):=by kernel_rfl
theorem y0r (n:Nat) (r:(List UInt8×Bool)):g0i (n+1) r =
 a0a (a0e n r (8:Int)) fun r0 =>
 a0a (a0e n r0.2 (8:Int)) fun r1 =>
 a0a (a0e n r1.2 (8:Int)) fun r2 =>
 a0a (a0e n r2.2 (1:Int)) fun r3 =>
 some (((IntKind.wrap .i64 r0.1),(r1.1,((IntKind.wrap .i64 r2.1),(decide (r3.1=1))))),r3.2):=by kernel_rfl
theorem x0g (n:Nat) (k:Int) (p1:Int) (p2:a0v):g0g (n+1) k p1 p2 =
 tif ((decide (k=p1))) (
 some true) (
 a0a (e0p n p2 k) fun r0 =>
 tif (r0) (
 a0a (at? p2.2.2.2 k) fun r1 =>
 a0a (at? p2.2.2.2 p1) fun r2 =>
 a0a (p0k n r1.1 r2.1) fun r3 =>
 some r3) (
 some false)):=by kernel_rfl
theorem z0v (n:Nat) (s1:(List a0j)) (s2:(List a0j)):o0q (n+1) s1 s2 =
 tif ((!(decide ((((List.length s1):Nat):Int)=(((List.length s2):Nat):Int))))) (
 some false) (
 a0a (g0v n a0b (s1,(s2,((((List.length s1):Nat):Int),(0,()))))) fun r0 =>
 b0z (fun y1 =>
 some true) (fun z2 =>
 some z2) r0):=by kernel_rfl
theorem l0k (n f:Nat) (s1:(List a0j)) (s2:(List a0j)) (s12:Int) (s13:Int):g0v n (f+1) (s1,s2,s12,s13,()) =
 tif ((decide (s13<s12))) (
 a0a (at? s1 s13) fun r0 =>
 a0a (at? s2 s13) fun r1 =>
 tif ((!((decide (r0.1=r1.1))&&((decide (r0.2.1=r1.2.1))&&((decide (r0.2.2.1=r1.2.2.1))&&(r0.2.2.2==r1.2.2.2)))))) (
 some (.inr false)) (
 g0v n f (s1,(s2,(s12,((IntKind.wrap .i64 (s13+1)),())))))) (
 some (.inl ())):=by kernel_rfl
theorem v0v (n:Nat) (s:(List Int)) (f_:((Int×Unit)→Option Bool)):r0v (n+1) s f_ =
 a0a (d0v n a0b (s,(f_,((((List.length s):Nat):Int),(0,()))))) fun r0 =>
 b0z (fun y1 =>
 some ((-1):Int)) (fun z2 =>
 some z2) r0:=by kernel_rfl
theorem j0l (n f:Nat) (s:(List Int)) (f_:((Int×Unit)→Option Bool)) (s7:Int) (s8:Int):d0v n (f+1) (s,f_,s7,s8,()) =
 tif ((decide (s8<s7))) (
 a0a (at? s s8) fun r0 =>
 a0a (f_ (r0,())) fun r1 =>
 tif (r1) (
 some (.inr s8)) (
 d0v n f (s,(f_,(s7,((IntKind.wrap .i64 (s8+1)),())))))) (
 some (.inl ())):=by kernel_rfl
theorem a2i (n:Nat) (t:Int) (now:Int) (w:Int) (n_:Int):d1s (n+1) t now w n_ =
 a0a (a2h n t w) fun r0 =>
 a0a (d1r n now w n_) fun r1 =>
 tif ((decide (r0.2=0))) (
 tif ((decide (r1.2=0))) (
 some (decide (r0.1<r1.1))) (
 some false)) (
 some false):=by kernel_rfl
theorem m1z (n:Nat) (s:List UInt8):a1q (n+1) s =
 tif ((s==[])) (
 some false) (
 tif ((decide ((64:Int)<(((List.length s):Nat):Int)))) (
 some false) (
 a0a (at? s (0:Int)) fun r0 =>
 a0a (r0e n (((UInt8.toNat r0):Nat):Int)) fun r1 =>
 tif (r1) (
 some false) (
 a0a (h0o n (List.map (fun y2=>(((UInt8.toNat y2):Nat):Int)) s) (fun y3=>s0z n y3.1)) fun r4 =>
 some (!r4)))):=by kernel_rfl
theorem u1s (n:Nat) (s:a0v):l1t (n+1) s =
 a0a (q0i n s) fun r0 =>
 tif ((!(decide (r0.2=0)))) (
 some (0:Int)) (
 a0a (x0h n s.2.1) fun r1 =>
 tif ((!r1)) (
 some (0:Int)) (
 a0a (l0p n r0.1) fun r2 =>
 some r2)):=by kernel_rfl
theorem l1s (n:Nat) (i:Int) (p1:a0v):g0s (n+1) i p1 =
 a0a (e0p n p1 i) fun r0 =>
 some (!r0):=by kernel_rfl
theorem z0w (n:Nat) (s:(List (List UInt8×List UInt8))):o0s (n+1) s =
 tif ((decide ((List.length s)=0))) (
 both (
 some []) (
 tif ((decide (((0+(List.length s))*32)≤140737488355328))) (
 some ([]++s)) (
 none))) (
 tif ((decide (((0+(List.length s))*32)≤140737488355328))) (
 some ([]++s)) (
 none)):=by kernel_rfl
theorem n1m (n:Nat) (c:b0k):a1u (n+1) c =
 a0a (d0l n c) fun r0 =>
 tif ((!(decide (r0=0)))) (
 some ([],([],[]))) (
 a0a (x0c n c.2.2.1.1) fun r1 =>
 a0a (x0c n c.2.2.1.2.1) fun r2 =>
 a0a (x0c n c.2.2.1.2.2) fun r3 =>
 some (r1,(r2,r3))):=by kernel_rfl
theorem n1n (n:Nat) (c:b0k) (s:((List a0c)×((List a0c)×(List a0c)))) (was:a0c) (j:Int):a1v (n+1) c s was j =
 a0a (y0y n c s) fun r0 =>
 f1d (r0.1) (
 tif ((!(decide (r0.2=0)))) (
 some (([],([],[])),r0.2)) (
 tif ((!((decide (was.1=0))&&((decide (was.2.1=0))&&((decide (was.2.2.1.1=0))&&((decide (was.2.2.1.2.1=0))&&((decide (was.2.2.1.2.2.1=0))&&((was.2.2.1.2.2.2==false)&&((decide (was.2.2.2.1.1=0))&&((decide (was.2.2.2.1.2.1=0))&&((decide (was.2.2.2.1.2.2.1=0))&&((was.2.2.2.1.2.2.2==false)&&((decide (was.2.2.2.2.1.1=0))&&((decide (was.2.2.2.2.1.2=0))&&((decide (was.2.2.2.2.2.1=0))&&((decide (was.2.2.2.2.2.2.1=0))&&(decide (was.2.2.2.2.2.2.2=0)))))))))))))))))) (
 a0a (m0j n was.2 c.2.1.1 was.1) fun r1 =>
 tif ((!r1)) (
 some (([],([],[])),2)) (
 tif (((decide (was.1=0))&&((decide (was.2.1=0))&&((decide (was.2.2.1.1=0))&&((decide (was.2.2.1.2.1=0))&&((decide (was.2.2.1.2.2.1=0))&&((was.2.2.1.2.2.2==false)&&((decide (was.2.2.2.1.1=0))&&((decide (was.2.2.2.1.2.1=0))&&((decide (was.2.2.2.1.2.2.1=0))&&((was.2.2.2.1.2.2.2==false)&&((decide (was.2.2.2.2.1.1=0))&&((decide (was.2.2.2.2.1.2=0))&&((decide (was.2.2.2.2.2.1=0))&&((decide (was.2.2.2.2.2.2.1=0))&&(decide (was.2.2.2.2.2.2.2=0))))))))))))))))) (
 some (s,0)) (
 tif ((decide (was.1=j))) (
 some (s,0)) (
 tif ((decide (j<was.1))) (
 some (([],([],[])),1)) (
 none))))) (
 tif (((decide (was.1=0))&&((decide (was.2.1=0))&&((decide (was.2.2.1.1=0))&&((decide (was.2.2.1.2.1=0))&&((decide (was.2.2.1.2.2.1=0))&&((was.2.2.1.2.2.2==false)&&((decide (was.2.2.2.1.1=0))&&((decide (was.2.2.2.1.2.1=0))&&((decide (was.2.2.2.1.2.2.1=0))&&((was.2.2.2.1.2.2.2==false)&&((decide (was.2.2.2.2.1.1=0))&&((decide (was.2.2.2.2.1.2=0))&&((decide (was.2.2.2.2.2.1=0))&&((decide (was.2.2.2.2.2.2.1=0))&&(decide (was.2.2.2.2.2.2.2=0))))))))))))))))) (
 some (s,0)) (
 tif ((decide (was.1=j))) (
 some (s,0)) (
 tif ((decide (j<was.1))) (
 some (([],([],[])),1)) (
 none)))))) fun r2 =>
 tif ((!(decide (r0.2=0)))) (
 some (([],([],[])),r0.2)) (
 tif ((!((decide (was.1=0))&&((decide (was.2.1=0))&&((decide (was.2.2.1.1=0))&&((decide (was.2.2.1.2.1=0))&&((decide (was.2.2.1.2.2.1=0))&&((was.2.2.1.2.2.2==false)&&((decide (was.2.2.2.1.1=0))&&((decide (was.2.2.2.1.2.1=0))&&((decide (was.2.2.2.1.2.2.1=0))&&((was.2.2.2.1.2.2.2==false)&&((decide (was.2.2.2.2.1.1=0))&&((decide (was.2.2.2.2.1.2=0))&&((decide (was.2.2.2.2.2.1=0))&&((decide (was.2.2.2.2.2.2.1=0))&&(decide (was.2.2.2.2.2.2.2=0)))))))))))))))))) (
 a0a (m0j n was.2 c.2.1.1 was.1) fun r3 =>
 tif ((!r3)) (
 some (([],([],[])),2)) (
 tif (((decide (was.1=0))&&((decide (was.2.1=0))&&((decide (was.2.2.1.1=0))&&((decide (was.2.2.1.2.1=0))&&((decide (was.2.2.1.2.2.1=0))&&((was.2.2.1.2.2.2==false)&&((decide (was.2.2.2.1.1=0))&&((decide (was.2.2.2.1.2.1=0))&&((decide (was.2.2.2.1.2.2.1=0))&&((was.2.2.2.1.2.2.2==false)&&((decide (was.2.2.2.2.1.1=0))&&((decide (was.2.2.2.2.1.2=0))&&((decide (was.2.2.2.2.2.1=0))&&((decide (was.2.2.2.2.2.2.1=0))&&(decide (was.2.2.2.2.2.2.2=0))))))))))))))))) (
 some (s,0)) (
 tif ((decide (was.1=j))) (
 some (s,0)) (
 tif ((decide (j<was.1))) (
 some (([],([],[])),1)) (
 a0a (r0l n r2 (0:Int) j) fun r4 =>
 tif ((!r4.1)) (
 some (([],([],[])),1)) (
 a0a (g0d n r4.2 (0:Int) was.1 was.2) fun r5 =>
 tif ((!(decide (r5.1=0)))) (
 some (([],([],[])),r5.1)) (
 a0a (n1q n r5.2 was.1 j) fun r6 =>
 some (r6.2,0)))))))) (
 tif (((decide (was.1=0))&&((decide (was.2.1=0))&&((decide (was.2.2.1.1=0))&&((decide (was.2.2.1.2.1=0))&&((decide (was.2.2.1.2.2.1=0))&&((was.2.2.1.2.2.2==false)&&((decide (was.2.2.2.1.1=0))&&((decide (was.2.2.2.1.2.1=0))&&((decide (was.2.2.2.1.2.2.1=0))&&((was.2.2.2.1.2.2.2==false)&&((decide (was.2.2.2.2.1.1=0))&&((decide (was.2.2.2.2.1.2=0))&&((decide (was.2.2.2.2.2.1=0))&&((decide (was.2.2.2.2.2.2.1=0))&&(decide (was.2.2.2.2.2.2.2=0))))))))))))))))) (
 some (s,0)) (
 tif ((decide (was.1=j))) (
 some (s,0)) (
 tif ((decide (j<was.1))) (
 some (([],([],[])),1)) (
 a0a (r0l n r2 (0:Int) j) fun r7 =>
 tif ((!r7.1)) (
 some (([],([],[])),1)) (
 a0a (g0d n r7.2 (0:Int) was.1 was.2) fun r8 =>
 tif ((!(decide (r8.1=0)))) (
 some (([],([],[])),r8.1)) (
 a0a (n1q n r8.2 was.1 j) fun r9 =>
 some (r9.2,0)))))))):=by kernel_rfl
theorem b2u (n:Nat) (r:(Int×(Int×(List a0j)))) (room:Int) (e:a0j):v1o (n+1) r room e =
 a0a (y0a n r room) fun r0 =>
 tif ((!(decide (r0=0)))) (
 some ((0,(0,[])),2)) (
 a0a (e0r n e) fun r1 =>
 tif ((!(decide (r1=0)))) (
 some ((0,(0,[])),2)) (
 a0a (d1d n r) fun r2 =>
 tif ((decide (r2.2=0))) (
 a0a (k0y n r2.1 e) fun r3 =>
 tif ((!r3)) (
 some ((0,(0,[])),9)) (
 tif ((decide ((((List.length r.2.2):Nat):Int)=room))) (
 tif ((decide (r.1=70368744177664))) (
 some ((0,(0,[])),1)) (
 a0a (q0v n r.2.2 room) fun r4 =>
 f1d (r4.1) (
 tif ((!(decide (r4.2=0)))) (
 some ((0,(0,[])),r4.2)) (
 none)) fun r5 =>
 tif ((!(decide (r4.2=0)))) (
 some ((0,(0,[])),r4.2)) (
 a0a (b1p n r5 e) fun r6 =>
 tif (r6.2.1) (
 a0a (n0w n r6.2.2) fun r7 =>
 some (((IntKind.wrap .i64 (r.1+1)),(r6.1.1,r7.1)),0)) (
 a0a (n0w n r6.2.2) fun r8 =>
 some ((r.1,(r.2.1,r8.1)),0))))) (
 a0a (q0v n r.2.2 room) fun r9 =>
 f1d (r9.1) (
 tif ((!(decide (r9.2=0)))) (
 some ((0,(0,[])),r9.2)) (
 none)) fun r10 =>
 tif ((!(decide (r9.2=0)))) (
 some ((0,(0,[])),r9.2)) (
 a0a (b1p n r10 e) fun r11 =>
 tif (r11.2.1) (
 a0a (n0w n r11.2.2) fun r12 =>
 some (((IntKind.wrap .i64 (r.1+1)),(r11.1.1,r12.1)),0)) (
 a0a (n0w n r11.2.2) fun r13 =>
 some ((r.1,(r.2.1,r13.1)),0)))))) (
 tif ((decide ((((List.length r.2.2):Nat):Int)=room))) (
 tif ((decide (r.1=70368744177664))) (
 some ((0,(0,[])),1)) (
 a0a (q0v n r.2.2 room) fun r14 =>
 f1d (r14.1) (
 tif ((!(decide (r14.2=0)))) (
 some ((0,(0,[])),r14.2)) (
 none)) fun r15 =>
 tif ((!(decide (r14.2=0)))) (
 some ((0,(0,[])),r14.2)) (
 a0a (b1p n r15 e) fun r16 =>
 tif (r16.2.1) (
 a0a (n0w n r16.2.2) fun r17 =>
 some (((IntKind.wrap .i64 (r.1+1)),(r16.1.1,r17.1)),0)) (
 a0a (n0w n r16.2.2) fun r18 =>
 some ((r.1,(r.2.1,r18.1)),0))))) (
 a0a (q0v n r.2.2 room) fun r19 =>
 f1d (r19.1) (
 tif ((!(decide (r19.2=0)))) (
 some ((0,(0,[])),r19.2)) (
 none)) fun r20 =>
 tif ((!(decide (r19.2=0)))) (
 some ((0,(0,[])),r19.2)) (
 a0a (b1p n r20 e) fun r21 =>
 tif (r21.2.1) (
 a0a (n0w n r21.2.2) fun r22 =>
 some (((IntKind.wrap .i64 (r.1+1)),(r21.1.1,r22.1)),0)) (
 a0a (n0w n r21.2.2) fun r23 =>
 some ((r.1,(r.2.1,r23.1)),0))))))):=by kernel_rfl
theorem x1h (n:Nat) (c:d0h) (e:a0j):o1w (n+1) c e =
 a0a (e0r n e) fun r0 =>
 tif ((!(decide (r0=0)))) (
 some ((0,((0,(0,(0,false))),((0,(0,(0,false))),((0,0),(0,(0,0)))))),r0)) (
 a0a (o1s n e) fun r1 =>
 a0a (u0k n c r1) fun r2 =>
 some r2):=by kernel_rfl
theorem s1m (n:Nat) (c:b0k) (s:((List a0c)×((List a0c)×(List a0c)))):y0y (n+1) c s =
 a0a (d0l n c) fun r0 =>
 tif ((!(decide (r0=0)))) (
 some (none,r0)) (
 tif ((!(decide ((((List.length s.1):Nat):Int)=c.2.2.1.1)))) (
 some (none,2)) (
 a0a (l0x n s.1 c.2.1.1) fun r1 =>
 tif ((!(decide (r1=0)))) (
 some (none,2)) (
 tif ((!(decide ((((List.length s.2.1):Nat):Int)=c.2.2.1.2.1)))) (
 some (none,2)) (
 a0a (l0x n s.2.1 c.2.1.2.1) fun r2 =>
 tif ((!(decide (r2=0)))) (
 some (none,2)) (
 tif ((!(decide ((((List.length s.2.2):Nat):Int)=c.2.2.1.2.2)))) (
 some (none,2)) (
 a0a (l0x n s.2.2 c.2.1.2.2) fun r3 =>
 tif ((!(decide (r3=0)))) (
 some (none,2)) (
 some ((some (c,s)),0)))))))):=by kernel_rfl
theorem m1i (n:Nat) (l:(List a0j)):a1f (n+1) l =
 a0a (g0x n a0b (l,(l,((((List.length l):Nat):Int),(0,()))))) fun r0 =>
 b0z (fun y1 =>
 some true) (fun z2 =>
 some z2) r0:=by kernel_rfl
theorem r0y (n f:Nat) (l:(List a0j)) (s5:(List a0j)) (s6:Int) (s7:Int):g0x n (f+1) (l,s5,s6,s7,()) =
 tif ((decide (s7<s6))) (
 a0a (at? s5 s7) fun r0 =>
 a0a (e0r n r0) fun r1 =>
 tif ((!(decide (r1=0)))) (
 some (.inr false)) (
 tif ((decide ((0:Int)<s7))) (
 a0a (at? l (IntKind.wrap .i64 (s7-1))) fun r2 =>
 a0a (k0y n r2 r0) fun r3 =>
 tif ((!r3)) (
 some (.inr false)) (
 g0x n f (l,(s5,(s6,((IntKind.wrap .i64 (s7+1)),())))))) (
 g0x n f (l,(s5,(s6,((IntKind.wrap .i64 (s7+1)),()))))))) (
 some (.inl ())):=by kernel_rfl
theorem m1k (n:Nat) (r:(Int×(Int×(List a0j)))) (room:Int):j1s (n+1) r room =
 tif ((decide (r.1=0))) (
 some (decide (r.2.1=0))) (
 tif ((decide ((((List.length r.2.2):Nat):Int)=room))) (
 tif ((decide ((0:Int)≤r.2.1))) (
 a0a (at? r.2.2 (0:Int)) fun r0 =>
 some (decide (r.2.1<r0.1))) (
 some false)) (
 some false)):=by kernel_rfl
theorem c1p (n:Nat) (l:(List a0c)) (i:Int):e0h (n+1) l i =
 a0a (h0p n l (fun y0=>m0s n y0.1 i)) fun r1 =>
 some r1:=by kernel_rfl
theorem v1p (n:Nat) (r:(Int×(Int×(List a0j)))):d1d (n+1) r =
 tif ((decide ((((List.length r.2.2):Nat):Int)=0))) (
 some ((0,(0,(0,false))),3)) (
 a0a (at? r.2.2 (IntKind.wrap .i64 ((((List.length r.2.2):Nat):Int)-1))) fun r0 =>
 some (r0,0)):=by kernel_rfl
theorem p1q (n:Nat) (c:d0h) (w:Int) (i:Int):m0j (n+1) c w i =
 tif ((decide (c.1=0))) (
 some false) (
 a0a (p0x n c) fun r0 =>
 tif ((!(decide (r0=0)))) (
 some false) (
 a0a (g0f n a0b (w,(i,((c.2.1.1,c.2.2.1.1),(0,()))))) fun r1 =>
 b0z (fun y2 =>
 some true) (fun z3 =>
 some z3) r1)):=by kernel_rfl
theorem m0i (n f:Nat) (w:Int) (i:Int) (s25:(Int×Int)) (s26:Int):g0f n (f+1) (w,i,s25,s26,()) =
 tif ((decide (s26<2))) (
 tif ((decide (s26=0))) (
 a0a (a2h n s25.1 w) fun r0 =>
 tif ((!(decide (r0.2=0)))) (
 some (.inr false)) (
 tif ((!(decide (r0.1=i)))) (
 some (.inr false)) (
 g0f n f (w,(i,(s25,((IntKind.wrap .i64 (s26+1)),()))))))) (
 tif ((decide (s26=1))) (
 a0a (a2h n s25.2 w) fun r1 =>
 tif ((!(decide (r1.2=0)))) (
 some (.inr false)) (
 tif ((!(decide (r1.1=i)))) (
 some (.inr false)) (
 g0f n f (w,(i,(s25,((IntKind.wrap .i64 (s26+1)),()))))))) (
 none))) (
 some (.inl ())):=by kernel_rfl
theorem wi_Of_eq (n:Nat) (t:Int) (w:Int):a2h (n+1) t w =
 a0a (q0d n t (0:Int) (35184372088831:Int)) fun r0 =>
 tif ((!r0)) (
 some (0,1)) (
 a0a (x1s n w) fun r1 =>
 tif ((!r1)) (
 some (0,1)) (
 tif ((decide (w=0))) (
 none) (
 some ((IntKind.wrap .i64 (Int.tdiv t w)),0)))):=by kernel_rfl
theorem p1i (n:Nat) (now:Int) (w:Int) (n_:Int):d1r (n+1) now w n_ =
 a0a (a2h n now w) fun r0 =>
 tif ((!(decide (r0.2=0)))) (
 some (0,1)) (
 a0a (p1h n n_ (1:Int) (4096:Int)) fun r1 =>
 tif ((!r1)) (
 some (0,1)) (
 some ((if (0:Int)<(IntKind.wrap .i64 ((IntKind.wrap .i64 (r0.1+1))-n_)) then (IntKind.wrap .i64 ((IntKind.wrap .i64 (r0.1+1))-n_)) else (0:Int)),0))):=by kernel_rfl
theorem h1y (n:Nat) (c:Int):r0e (n+1) c =
 tif ((decide ((48:Int)≤c))) (
 some (decide (c≤57))) (
 some false):=by kernel_rfl
theorem q0k (n:Nat) (s:(List Int)) (f_:((Int×Unit)→Option Bool)):h0o (n+1) s f_ =
 a0a (p0d n s f_) fun r0 =>
 some (decide ((0:Int)≤r0)):=by kernel_rfl
theorem f1k (n:Nat) (c:Int):s0z (n+1) c =
 a0a (a1o n c) fun r0 =>
 some (!r0):=by kernel_rfl
theorem m1x (n:Nat) (c:Int):a1o (n+1) c =
 a0a (r0e n c) fun r0 =>
 tif (r0) (
 some true) (
 tif ((decide (c=95))) (
 some true) (
 tif ((decide ((97:Int)≤(orI .u8 c (32:Int))))) (
 some (decide ((orI .u8 c (32:Int))≤122))) (
 some false))):=by kernel_rfl
theorem u1e (n:Nat) (n_:Int):x0c (n+1) n_ =
 tif ((decide (n_<1))) (
 some []) (
 tif ((decide ((4096:Int)<n_))) (
 some []) (
 tif (((decide ((0:Int)≤n_))&&((decide (n_≤n_))&&(decide ((n_*120)≤140737488355328))))) (
 some (List.replicate (Int.toNat n_) (0,(0,((0,(0,(0,false))),((0,(0,(0,false))),((0,0),(0,(0,0))))))))) (
 none))):=by kernel_rfl
theorem c1s (n:Nat) (s:u0w) (i:Int):r0l (n+1) s (0:Int) i =
 tif ((decide ((0:Int)≤i))) (
 tif ((decide (s.1.2.1.1=0))) (
 none) (
 some ((decide (i≤(IntKind.wrap .i64 (Int.tdiv (35184372088831:Int) s.1.2.1.1)))),s))) (
 some (false,s)):=by kernel_rfl
theorem n1t (n:Nat) (s:u0w) (i:Int) (c:d0h):g0d (n+1) s (0:Int) i c =
 a0a (x0b n s.2.1 s.1.2.1.1 i c) fun r0 =>
 tif ((decide (r0.2=0))) (
 some (r0.2,(s.1,(r0.1,s.2.2)))) (
 some (r0.2,s)):=by kernel_rfl
theorem n1s (n:Nat) (s:u0w) (i:Int) (c:d0h):g0d (n+1) s (1:Int) i c =
 a0a (x0b n s.2.2.1 s.1.2.1.2.1 i c) fun r0 =>
 tif ((decide (r0.2=0))) (
 some (r0.2,(s.1,(s.2.1,(r0.1,s.2.2.2))))) (
 some (r0.2,s)):=by kernel_rfl
theorem n1r (n:Nat) (s:u0w) (i:Int) (c:d0h):g0d (n+1) s (2:Int) i c =
 a0a (x0b n s.2.2.2 s.1.2.1.2.2 i c) fun r0 =>
 tif ((decide (r0.2=0))) (
 some (r0.2,(s.1,(s.2.1,(s.2.2.1,r0.1))))) (
 some (r0.2,s)):=by kernel_rfl
theorem d2i (n:Nat) (s:u0w) (i:Int) (j:Int):n1q (n+1) s i j =
 tif ((decide (s.1.2.1.2.1=0))) (
 none) (
 tif ((decide (s.1.2.1.2.1=0))) (
 none) (
 tif ((decide ((IntKind.wrap .i64 (Int.tdiv (IntKind.wrap .i64 (i*s.1.2.1.1)) s.1.2.1.2.1))=(IntKind.wrap .i64 (Int.tdiv (IntKind.wrap .i64 (j*s.1.2.1.1)) s.1.2.1.2.1))))) (
 tif ((decide (s.1.2.1.2.2=0))) (
 none) (
 tif ((decide (s.1.2.1.2.2=0))) (
 none) (
 tif ((decide ((IntKind.wrap .i64 (Int.tdiv (IntKind.wrap .i64 (i*s.1.2.1.1)) s.1.2.1.2.2))=(IntKind.wrap .i64 (Int.tdiv (IntKind.wrap .i64 (j*s.1.2.1.1)) s.1.2.1.2.2))))) (
 some s) (
 a0a (i0b n s (2:Int) (IntKind.wrap .i64 (Int.tdiv (IntKind.wrap .i64 (i*s.1.2.1.1)) s.1.2.1.2.2))) fun r0 =>
 tif ((decide (r0.2.1=0))) (
 tif ((decide ((0:Int)<r0.1.1))) (
 a0a (g0d n r0.2.2 (2:Int) (IntKind.wrap .i64 (Int.tdiv (IntKind.wrap .i64 (i*s.1.2.1.1)) s.1.2.1.2.2)) r0.1) fun r1 =>
 some r1.2) (
 some r0.2.2)) (
 some r0.2.2))))) (
 a0a (i0b n s (1:Int) (IntKind.wrap .i64 (Int.tdiv (IntKind.wrap .i64 (i*s.1.2.1.1)) s.1.2.1.2.1))) fun r2 =>
 tif ((decide (r2.2.1=0))) (
 tif ((decide ((0:Int)<r2.1.1))) (
 a0a (g0d n r2.2.2 (1:Int) (IntKind.wrap .i64 (Int.tdiv (IntKind.wrap .i64 (i*s.1.2.1.1)) s.1.2.1.2.1)) r2.1) fun r3 =>
 tif ((decide (r3.2.1.2.1.2.2=0))) (
 none) (
 tif ((decide (r3.2.1.2.1.2.2=0))) (
 none) (
 tif ((decide ((IntKind.wrap .i64 (Int.tdiv (IntKind.wrap .i64 (i*r3.2.1.2.1.1)) r3.2.1.2.1.2.2))=(IntKind.wrap .i64 (Int.tdiv (IntKind.wrap .i64 (j*r3.2.1.2.1.1)) r3.2.1.2.1.2.2))))) (
 some r3.2) (
 a0a (i0b n r3.2 (2:Int) (IntKind.wrap .i64 (Int.tdiv (IntKind.wrap .i64 (i*r3.2.1.2.1.1)) r3.2.1.2.1.2.2))) fun r4 =>
 tif ((decide (r4.2.1=0))) (
 tif ((decide ((0:Int)<r4.1.1))) (
 a0a (g0d n r4.2.2 (2:Int) (IntKind.wrap .i64 (Int.tdiv (IntKind.wrap .i64 (i*r3.2.1.2.1.1)) r3.2.1.2.1.2.2)) r4.1) fun r5 =>
 some r5.2) (
 some r4.2.2)) (
 some r4.2.2))))) (
 tif ((decide (r2.2.2.1.2.1.2.2=0))) (
 none) (
 tif ((decide (r2.2.2.1.2.1.2.2=0))) (
 none) (
 tif ((decide ((IntKind.wrap .i64 (Int.tdiv (IntKind.wrap .i64 (i*r2.2.2.1.2.1.1)) r2.2.2.1.2.1.2.2))=(IntKind.wrap .i64 (Int.tdiv (IntKind.wrap .i64 (j*r2.2.2.1.2.1.1)) r2.2.2.1.2.1.2.2))))) (
 some r2.2.2) (
 a0a (i0b n r2.2.2 (2:Int) (IntKind.wrap .i64 (Int.tdiv (IntKind.wrap .i64 (i*r2.2.2.1.2.1.1)) r2.2.2.1.2.1.2.2))) fun r6 =>
 tif ((decide (r6.2.1=0))) (
 tif ((decide ((0:Int)<r6.1.1))) (
 a0a (g0d n r6.2.2 (2:Int) (IntKind.wrap .i64 (Int.tdiv (IntKind.wrap .i64 (i*r2.2.2.1.2.1.1)) r2.2.2.1.2.1.2.2)) r6.1) fun r7 =>
 some r7.2) (
 some r6.2.2)) (
 some r6.2.2)))))) (
 tif ((decide (r2.2.2.1.2.1.2.2=0))) (
 none) (
 tif ((decide (r2.2.2.1.2.1.2.2=0))) (
 none) (
 tif ((decide ((IntKind.wrap .i64 (Int.tdiv (IntKind.wrap .i64 (i*r2.2.2.1.2.1.1)) r2.2.2.1.2.1.2.2))=(IntKind.wrap .i64 (Int.tdiv (IntKind.wrap .i64 (j*r2.2.2.1.2.1.1)) r2.2.2.1.2.1.2.2))))) (
 some r2.2.2) (
 a0a (i0b n r2.2.2 (2:Int) (IntKind.wrap .i64 (Int.tdiv (IntKind.wrap .i64 (i*r2.2.2.1.2.1.1)) r2.2.2.1.2.1.2.2))) fun r8 =>
 tif ((decide (r8.2.1=0))) (
 tif ((decide ((0:Int)<r8.1.1))) (
 a0a (g0d n r8.2.2 (2:Int) (IntKind.wrap .i64 (Int.tdiv (IntKind.wrap .i64 (i*r2.2.2.1.2.1.1)) r2.2.2.1.2.1.2.2)) r8.1) fun r9 =>
 some r9.2) (
 some r8.2.2)) (
 some r8.2.2)))))))):=by kernel_rfl
theorem f1y (n:Nat) (p:a0j) (c:a0j):k0y (n+1) p c =
 a0a (n0l n (p::(c::[]))) fun r0 =>
 tif (r0) (
 some (decide (p.1<c.1))) (
 some false):=by kernel_rfl
theorem v1m (n:Nat) (l:(List a0j)) (room:Int):q0v (n+1) l room =
 a0a (v0f n room) fun r0 =>
 f1d (r0.1) (
 tif ((!(decide (r0.2=0)))) (
 some (none,r0.2)) (
 none)) fun r1 =>
 tif ((!(decide (r0.2=0)))) (
 some (none,r0.2)) (
 a0a (q0u n a0b (r1,(l,((((List.length l):Nat):Int),(0,()))))) fun r2 =>
 b0z (fun y3 =>
 some ((some y3.1),0)) (fun z4 =>
 some z4) r2):=by kernel_rfl
theorem v0h (n f:Nat) (q:i0l) (s18:(List a0j)) (s19:Int) (s20:Int):q0u n (f+1) (q,s18,s19,s20,()) =
 tif ((decide (s20<s19))) (
 a0a (at? s18 s20) fun r0 =>
 a0a (b1p n q r0) fun r1 =>
 q0u n f (r1.2.2,(s18,(s19,((IntKind.wrap .i64 (s20+1)),()))))) (
 some (.inl (q,()))):=by kernel_rfl
theorem q1k (n:Nat) (r:i0l) (x:a0j):b1p (n+1) r x =
 tif ((decide ((((List.length r.2.1):Nat):Int)<r.1))) (
 tif ((decide ((((List.length r.2.1)+1)*32)≤140737488355328))) (
 some ((0,(0,(0,false))),(false,(r.1,((r.2.1++(x::[])),r.2.2))))) (
 none)) (
 a0a (at? r.2.1 r.2.2.1) fun r0 =>
 a0a ((r.2.1)[(Int.toNat r.2.2.1)]?) fun r1 =>
 a0a (at? r.2.1 r.2.2.1) fun r2 =>
 a0a ((r.2.1)[(Int.toNat r.2.2.1)]?) fun r3 =>
 a0a (y1h n (r.1,((List.set r.2.1 (Int.toNat r.2.2.1) x),r.2.2)) (1:Int)) fun r4 =>
 some (r1,(true,(r4.2.1,(r4.2.2.1,(r4.1,(IntKind.wrap .u64 (r4.2.2.2.2+1)))))))):=by kernel_rfl
theorem g2e (n:Nat) (r:i0l):n0w (n+1) r =
 tif ((true&&((decide ((0:Int)≤(((List.length r.2.1):Nat):Int)))&&(decide (((((List.length r.2.1):Nat):Int)*32)≤140737488355328))))) (
 tif ((decide ((0:Int)≤r.2.2.1))) (
 tif ((decide ((Int.toNat r.2.2.1)≤(List.length r.2.1)))) (
 tif ((decide (((0+(List.length (List.take ((List.length r.2.1)-(Int.toNat r.2.2.1)) (List.drop (Int.toNat r.2.2.1) r.2.1))))*32)≤140737488355328))) (
 tif (((decide ((0:Int)≤r.2.2.1))&&(decide (r.2.2.1≤(((List.length r.2.1):Nat):Int))))) (
 tif ((decide ((((List.length ((List.replicate 0 ((0:Int),((0:Int),((0:Int),false))))++(List.take ((List.length r.2.1)-(Int.toNat r.2.2.1)) (List.drop (Int.toNat r.2.2.1) r.2.1))))+(List.length (List.take ((Int.toNat r.2.2.1)-0) (List.drop 0 r.2.1))))*32)≤140737488355328))) (
 some ((((List.replicate 0 ((0:Int),((0:Int),((0:Int),false))))++(List.take ((List.length r.2.1)-(Int.toNat r.2.2.1)) (List.drop (Int.toNat r.2.2.1) r.2.1)))++(List.take ((Int.toNat r.2.2.1)-0) (List.drop 0 r.2.1))),r)) (
 none)) (
 none)) (
 none)) (
 none)) (
 none)) (
 none):=by kernel_rfl
theorem o1t (n:Nat) (a:d0h) (b:d0h):u0k (n+1) a b =
 a0a (p0x n a) fun r0 =>
 tif ((!(decide (r0=0)))) (
 some ((0,((0,(0,(0,false))),((0,(0,(0,false))),((0,0),(0,(0,0)))))),2)) (
 a0a (p0x n b) fun r1 =>
 tif ((!(decide (r1=0)))) (
 some ((0,((0,(0,(0,false))),((0,(0,(0,false))),((0,0),(0,(0,0)))))),2)) (
 a0a (t0n n a) fun r2 =>
 tif (r2) (
 some (b,0)) (
 a0a (t0n n b) fun r3 =>
 tif (r3) (
 some (a,0)) (
 a0a (t1i n a b) fun r4 =>
 some r4)))):=by kernel_rfl
theorem x1e (n:Nat) (e:a0j):o1s (n+1) e =
 some (1,(e,(e,((0,0),(0,(0,0)))))):=by kernel_rfl
theorem l1j (n:Nat) (l:(List a0c)) (w:Int):l0x (n+1) l w =
 tif ((decide ((((List.length l):Nat):Int)=0))) (
 some (2:Int)) (
 tif ((decide ((4096:Int)<(((List.length l):Nat):Int)))) (
 some (2:Int)) (
 tif ((decide (w<1))) (
 some (2:Int)) (
 tif ((decide ((1099511627776:Int)<w))) (
 some (2:Int)) (
 a0a (g0r n a0b (l,(w,(l,((((List.length l):Nat):Int),(0,())))))) fun r0 =>
 b0z (fun y1 =>
 some (0:Int)) (fun z2 =>
 some z2) r0)))):=by kernel_rfl
theorem r0t (n f:Nat) (l:(List a0c)) (w:Int) (s23:(List a0c)) (s24:Int) (s25:Int):g0r n (f+1) (l,w,s23,s24,s25,()) =
 tif ((decide (s25<s24))) (
 a0a (at? s23 s25) fun r0 =>
 a0a (s0h n r0) fun r1 =>
 tif ((!r1)) (
 a0a (l1a n r0.1 (((List.length l):Nat):Int)) fun r2 =>
 tif ((!(decide (r2=s25)))) (
 some (.inr (2:Int))) (
 a0a (m0j n r0.2 w r0.1) fun r3 =>
 tif ((!r3)) (
 some (.inr (2:Int))) (
 g0r n f (l,(w,(s23,(s24,((IntKind.wrap .i64 (s25+1)),())))))))) (
 g0r n f (l,(w,(s23,(s24,((IntKind.wrap .i64 (s25+1)),()))))))) (
 some (.inl ())):=by kernel_rfl
theorem q0l (n:Nat) (s:(List a0c)) (f_:((a0c×Unit)→Option Bool)):h0p (n+1) s f_ =
 a0a (j0r n s f_) fun r0 =>
 some (decide ((0:Int)≤r0)):=by kernel_rfl
theorem x0v (n:Nat) (s:a0c) (p1:Int):m0s (n+1) s p1 =
 tif ((decide ((0:Int)<s.2.1))) (
 some (decide (p1≤s.1))) (
 some false):=by kernel_rfl
theorem o1u (n:Nat) (c:d0h):p0x (n+1) c =
 a0a (t0n n c) fun r0 =>
 tif (r0) (
 some (0:Int)) (
 a0a (b1c n c) fun r1 =>
 tif ((!r1)) (
 some (2:Int)) (
 a0a (d1p n (18446744073709551615:Int)) fun r2 =>
 a0a (z0k n r2 (IntKind.wrap .u64 (IntKind.wrap .i64 (c.1-1)))) fun r3 =>
 tif ((!(decide (r3.2=0)))) (
 some (2:Int)) (
 a0a (d1q n r3.1 c.2.2.2.1) fun r4 =>
 tif (r4) (
 some (2:Int)) (
 a0a (g1i n c.2.2.2.2.2.1 (IntKind.wrap .i64 (c.1-1))) fun r5 =>
 tif ((!r5)) (
 some (2:Int)) (
 a0a (g1i n c.2.2.2.2.1 (IntKind.wrap .i64 ((IntKind.wrap .i64 (c.1-1))-c.2.2.2.2.2.1))) fun r6 =>
 tif ((!r6)) (
 some (2:Int)) (
 a0a (g1i n c.2.2.2.2.2.2 (IntKind.wrap .i64 (c.2.2.1.1-c.2.1.1))) fun r7 =>
 tif ((!r7)) (
 some (2:Int)) (
 some (0:Int)))))))):=by kernel_rfl
end Go.Proofs.YtagnkfbpgkckiaaGreat
