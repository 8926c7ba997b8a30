/- Trees, printed by program. -/
import Derived.Test.YtghegadegcemjaaTr0
import Derived.KernelRfl
set_option linter.unusedVariables false
namespace Go.Proofs.Ytghegadegcemjaa
open Go.Flat
theorem l0i (n:Nat) (n_:Int) (l:(List c0u)) (at_:Int):j0q (n+1) n_ l at_ =
 a0e (j0p n ) fun r0 =>
 tif ((!r0)) (
 some false) (
 tif ((decide ((60:Int)<n_))) (
 tif ((decide (n_≤16777216))) (
 some true) (
 tif ((decide ((100:Int)<(((List.length l):Nat):Int)))) (
 some true) (
 a0e (e0v n n_) fun r1 =>
 s0k (r1.1) (
 a0e (k0a n n_) fun r2 =>
 tif ((!r2.2)) (
 tif ((!r2.2)) (
 some (decide (r1.2=1))) (
 some false)) (
 tif ((!r2.2)) (
 some (decide (r1.2=1))) (
 some false))) fun r3 =>
 a0e (k0a n n_) fun r4 =>
 tif ((!r4.2)) (
 tif ((!r4.2)) (
 some false) (
 some false)) (
 a0e (a0r n a0j (n_,(at_,(r3,(r1.2,(r4.1,(l,((((List.length l):Nat):Int),(0,()))))))))) fun r5 =>
 l0y (fun y6 =>
 tif ((decide (y6.2.2.1=0))) (
 a0e (c0k n y6.2.1) fun r7 =>
 some (decide (r7.1=y6.1))) (
 some false)) (fun z8 =>
 some z8) r5)))) (
 tif ((decide ((100:Int)<(((List.length l):Nat):Int)))) (
 some true) (
 a0e (e0v n n_) fun r9 =>
 s0k (r9.1) (
 a0e (k0a n n_) fun r10 =>
 tif ((!r10.2)) (
 tif ((!r10.2)) (
 some (decide (r9.2=1))) (
 some false)) (
 tif ((!r10.2)) (
 some (decide (r9.2=1))) (
 some false))) fun r11 =>
 a0e (k0a n n_) fun r12 =>
 tif ((!r12.2)) (
 tif ((!r12.2)) (
 some false) (
 some false)) (
 a0e (a0r n a0j (n_,(at_,(r11,(r9.2,(r12.1,(l,((((List.length l):Nat):Int),(0,()))))))))) fun r13 =>
 l0y (fun y14 =>
 tif ((decide (y14.2.2.1=0))) (
 a0e (c0k n y14.2.1) fun r15 =>
 some (decide (r15.1=y14.1))) (
 some false)) (fun z16 =>
 some z16) r13)))):=by kernel_rfl
theorem e0p (n f:Nat) (n_:Int) (at_:Int) (d:a0a) (why:Int) (w:a0a) (s64:(List c0u)) (s65:Int) (s66:Int):a0r n (f+1) (n_,at_,d,why,w,s64,s65,s66,()) =
 tif ((decide (s66<s65))) (
 a0e (at? s64 s66) fun r0 =>
 tif ((decide (r0.1=0))) (
 a0e (b0m n r0.2.2.1) fun r1 =>
 tif (r0.2.2.2.1) (
 tif ((decide (1≤(List.length r1)))) (
 a0e (e0a n w r0.2.1 (List.drop 1 (List.take (List.length r1) r1))) fun r2 =>
 a0e (a0i n d r0.2.1 (List.drop 1 (List.take (List.length r1) r1))) fun r3 =>
 tif ((!(decide (r3.1=r2.2)))) (
 some (.inr false)) (
 a0e (b0j n r2.1 at_) fun r4 =>
 a0e (a0l n r3.2 at_) fun r5 =>
 tif ((!(r4.1==r5.1))) (
 some (.inr false)) (
 tif ((!(decide (r4.2=r5.2.1)))) (
 some (.inr false)) (
 a0e (b0a n r5.2.2) fun r6 =>
 tif ((!(r6.1==r2.1.2.2.2))) (
 some (.inr false)) (
 a0e (b0g n r6.2) fun r7 =>
 a0e (d0n n r7.1 r2.1.1) fun r8 =>
 tif ((!r8)) (
 some (.inr false)) (
 a0e (a0s n r7.2) fun r9 =>
 a0e (b0d n r9.1 r2.1.2.1) fun r10 =>
 tif ((!r10)) (
 some (.inr false)) (
 a0r n f (n_,(at_,(r9.2,(why,(r2.1,(s64,(s65,((IntKind.wrap .i64 (s66+1)),()))))))))))))))) (
 none)) (
 a0e (e0a n w r0.2.1 r1) fun r11 =>
 a0e (a0i n d r0.2.1 r1) fun r12 =>
 tif ((!(decide (r12.1=r11.2)))) (
 some (.inr false)) (
 a0e (b0j n r11.1 at_) fun r13 =>
 a0e (a0l n r12.2 at_) fun r14 =>
 tif ((!(r13.1==r14.1))) (
 some (.inr false)) (
 tif ((!(decide (r13.2=r14.2.1)))) (
 some (.inr false)) (
 a0e (b0a n r14.2.2) fun r15 =>
 tif ((!(r15.1==r11.1.2.2.2))) (
 some (.inr false)) (
 a0e (b0g n r15.2) fun r16 =>
 a0e (d0n n r16.1 r11.1.1) fun r17 =>
 tif ((!r17)) (
 some (.inr false)) (
 a0e (a0s n r16.2) fun r18 =>
 a0e (b0d n r18.1 r11.1.2.1) fun r19 =>
 tif ((!r19)) (
 some (.inr false)) (
 a0r n f (n_,(at_,(r18.2,(why,(r11.1,(s64,(s65,((IntKind.wrap .i64 (s66+1)),())))))))))))))))) (
 tif ((decide (r0.1=1))) (
 a0e (g0u n w) fun r20 =>
 a0e (c0q n d) fun r21 =>
 tif ((!(decide (r21.1=r20.2)))) (
 some (.inr false)) (
 a0e (b0j n r20.1 at_) fun r22 =>
 a0e (a0l n r21.2 at_) fun r23 =>
 tif ((!(r22.1==r23.1))) (
 some (.inr false)) (
 tif ((!(decide (r22.2=r23.2.1)))) (
 some (.inr false)) (
 a0e (b0a n r23.2.2) fun r24 =>
 tif ((!(r24.1==r20.1.2.2.2))) (
 some (.inr false)) (
 a0e (b0g n r24.2) fun r25 =>
 a0e (d0n n r25.1 r20.1.1) fun r26 =>
 tif ((!r26)) (
 some (.inr false)) (
 a0e (a0s n r25.2) fun r27 =>
 a0e (b0d n r27.1 r20.1.2.1) fun r28 =>
 tif ((!r28)) (
 some (.inr false)) (
 a0r n f (n_,(at_,(r27.2,(why,(r20.1,(s64,(s65,((IntKind.wrap .i64 (s66+1)),()))))))))))))))) (
 tif ((decide (r0.1=2))) (
 a0e (k0t n w r0.2.1) fun r29 =>
 a0e (d0p n d r0.2.1) fun r30 =>
 a0e (b0j n r29 at_) fun r31 =>
 a0e (a0l n r30 at_) fun r32 =>
 tif ((!(r31.1==r32.1))) (
 some (.inr false)) (
 tif ((!(decide (r31.2=r32.2.1)))) (
 some (.inr false)) (
 a0e (b0a n r32.2.2) fun r33 =>
 tif ((!(r33.1==r29.2.2.2))) (
 some (.inr false)) (
 a0e (b0g n r33.2) fun r34 =>
 a0e (d0n n r34.1 r29.1) fun r35 =>
 tif ((!r35)) (
 some (.inr false)) (
 a0e (a0s n r34.2) fun r36 =>
 a0e (b0d n r36.1 r29.2.1) fun r37 =>
 tif ((!r37)) (
 some (.inr false)) (
 a0r n f (n_,(at_,(r36.2,(why,(r29,(s64,(s65,((IntKind.wrap .i64 (s66+1)),())))))))))))))) (
 tif ((decide (r0.1=3))) (
 a0e (i0w n w r0.2.2.2.2) fun r38 =>
 a0e (d0k n d r0.2.2.2.2) fun r39 =>
 tif ((!(decide (r39.1=r38.2)))) (
 some (.inr false)) (
 a0e (b0j n r38.1 at_) fun r40 =>
 a0e (a0l n r39.2 at_) fun r41 =>
 tif ((!(r40.1==r41.1))) (
 some (.inr false)) (
 tif ((!(decide (r40.2=r41.2.1)))) (
 some (.inr false)) (
 a0e (b0a n r41.2.2) fun r42 =>
 tif ((!(r42.1==r38.1.2.2.2))) (
 some (.inr false)) (
 a0e (b0g n r42.2) fun r43 =>
 a0e (d0n n r43.1 r38.1.1) fun r44 =>
 tif ((!r44)) (
 some (.inr false)) (
 a0e (a0s n r43.2) fun r45 =>
 a0e (b0d n r45.1 r38.1.2.1) fun r46 =>
 tif ((!r46)) (
 some (.inr false)) (
 a0r n f (n_,(at_,(r45.2,(why,(r38.1,(s64,(s65,((IntKind.wrap .i64 (s66+1)),()))))))))))))))) (
 tif ((decide (r0.1=4))) (
 a0e (f0m n d) fun r47 =>
 a0e (b0m n (9:Int)) fun r48 =>
 a0e (a0i n r47.2 (0:Int) r48) fun r49 =>
 a0e (b0j n w at_) fun r50 =>
 a0e (a0l n r47.1 at_) fun r51 =>
 tif ((!(r50.1==r51.1))) (
 some (.inr false)) (
 tif ((!(decide (r50.2=r51.2.1)))) (
 some (.inr false)) (
 a0e (b0a n r51.2.2) fun r52 =>
 tif ((!(r52.1==w.2.2.2))) (
 some (.inr false)) (
 a0e (b0g n r52.2) fun r53 =>
 a0e (d0n n r53.1 w.1) fun r54 =>
 tif ((!r54)) (
 some (.inr false)) (
 a0e (a0s n r53.2) fun r55 =>
 a0e (b0d n r55.1 w.2.1) fun r56 =>
 tif ((!r56)) (
 some (.inr false)) (
 a0r n f (n_,(at_,(r55.2,(why,(w,(s64,(s65,((IntKind.wrap .i64 (s66+1)),())))))))))))))) (
 a0e (b0j n w at_) fun r57 =>
 a0e (a0l n d at_) fun r58 =>
 tif ((!(r57.1==r58.1))) (
 some (.inr false)) (
 tif ((!(decide (r57.2=r58.2.1)))) (
 some (.inr false)) (
 a0e (b0a n r58.2.2) fun r59 =>
 tif ((!(r59.1==w.2.2.2))) (
 some (.inr false)) (
 a0e (b0g n r59.2) fun r60 =>
 a0e (d0n n r60.1 w.1) fun r61 =>
 tif ((!r61)) (
 some (.inr false)) (
 a0e (a0s n r60.2) fun r62 =>
 a0e (b0d n r62.1 w.2.1) fun r63 =>
 tif ((!r63)) (
 some (.inr false)) (
 a0r n f (n_,(at_,(r62.2,(why,(w,(s64,(s65,((IntKind.wrap .i64 (s66+1)),()))))))))))))))))))) (
 some (.inl (n_,(d,(why,()))))):=by kernel_rfl
theorem s0y (n:Nat) (n_:Int):e0v (n+1) n_ =
 tif ((decide (n_<1))) (
 some (none,1)) (
 tif ((decide ((16777216:Int)<n_))) (
 some (none,1)) (
 a0e (strings_Repeat n ((0:UInt8)::[]) (512:Int)) fun r0 =>
 a0e (e0j n (r0::[]) n_) fun r1 =>
 some ((some (r1,([],(0,false)))),0))):=by kernel_rfl
theorem j0u (n:Nat) (d:a0a) (i:Int) (s:List UInt8):a0i (n+1) d i s =
 a0e (h0d n d i) fun r0 =>
 tif ((!r0.1)) (
 some (1,r0.2)) (
 tif ((!(decide ((((List.length s):Nat):Int)=512)))) (
 some (1,r0.2)) (
 a0e (e0b n r0.2) fun r1 =>
 tif ((decide (r1.1=0))) (
 tif ((decide ((((List.length r1.2.2.1)+1)*24)≤140737488355328))) (
 some (r1.1,(r1.2.1,((r1.2.2.1++((i,s)::[])),r1.2.2.2)))) (
 none)) (
 some r1))):=by kernel_rfl
theorem k0k (n:Nat) (d:a0a):c0q (n+1) d =
 a0e (e0b n d) fun r0 =>
 tif ((decide (r0.1=0))) (
 a0e (e0c n r0.2 (fun y1=>e0k n y1.1)) fun r2 =>
 some (r0.1,r2.2)) (
 some r0):=by kernel_rfl
theorem k0l (n:Nat) (d:a0a):b0g (n+1) d =
 a0e (f0d n d.1) fun r0 =>
 some (r0,d):=by kernel_rfl
theorem i0m (n:Nat) (d:a0a):a0s (n+1) d =
 a0e (f0e n d.2.1) fun r0 =>
 some (r0,d):=by kernel_rfl
theorem m0u (n:Nat) (d:a0a) (keep:(List Bool)):d0k (n+1) d keep =
 a0e (e0c n (d.1,(d.2.1,(0,false))) (fun y0=>g0a n y0.1 keep)) fun r1 =>
 some r1:=by kernel_rfl
theorem g0k (n:Nat) (d:a0a):b0a (n+1) d =
 some (d.2.2.2,d):=by kernel_rfl
theorem u0v (n:Nat) (n_:Int):k0a (n+1) n_ =
 tif ((decide (n_<1))) (
 some (([],([],((0:Int),false))),false)) (
 tif ((decide ((16777216:Int)<n_))) (
 some (([],([],((0:Int),false))),false)) (
 tif (((decide ((0:Int)≤n_))&&((decide (n_≤n_))&&(decide ((n_*16)≤140737488355328))))) (
 a0e (g0e n a0j (([],([],((0:Int),false))),((List.map (fun y0=>(UInt8.ofNat (Int.toNat y0))) (List.replicate 512 (0:Int))),(((List.replicate (Int.toNat n_) ([]:List UInt8)),([],((0:Int),false))),((((List.length (List.replicate (Int.toNat n_) ([]:List UInt8))):Nat):Int),((0:Int),())))))) fun r1 =>
 l0y (fun y2 =>
 some (y2.2.1,true)) (fun z3 =>
 some z3) r1) (
 none))):=by kernel_rfl
theorem j0g (n f:Nat) (s2:a0a) (none_:List UInt8) (d:a0a) (s21:Int) (s22:Int):g0e n (f+1) (s2,none_,d,s21,s22,()) =
 tif ((decide (s22<s21))) (
 a0e (at? d.1 s22) fun r0 =>
 a0e ((d.1)[(Int.toNat s22)]?) fun r1 =>
 g0e n f (s2,(none_,(((List.set d.1 (Int.toNat s22) none_),d.2),(s21,((IntKind.wrap .i64 (s22+1)),())))))) (
 some (.inl (s2,(d,())))):=by kernel_rfl
theorem k0b (n:Nat) (d:a0a) (i:Int) (s:List UInt8):e0a (n+1) d i s =
 tif ((decide (i<0))) (
 some (d,1)) (
 tif ((decide ((((List.length d.1):Nat):Int)≤i))) (
 some (d,1)) (
 tif ((!(decide ((((List.length s):Nat):Int)=512)))) (
 some (d,1)) (
 a0e (e0s n d) fun r0 =>
 tif ((!r0.2)) (
 some (r0.1,14)) (
 tif ((decide (((0+(List.length r0.1.2.1))*24)≤140737488355328))) (
 tif ((decide ((((List.length ([]++r0.1.2.1))+1)*24)≤140737488355328))) (
 some ((r0.1.1,((([]++r0.1.2.1)++((i,s)::[])),r0.1.2.2)),0)) (
 none)) (
 none))))):=by kernel_rfl
theorem l0f (n:Nat) (d:a0a):g0u (n+1) d =
 a0e (e0s n d) fun r0 =>
 tif ((!r0.2)) (
 some (r0.1,14)) (
 a0e (d0m n r0.1 r0.1.2.1) fun r1 =>
 some (r1,0)):=by kernel_rfl
theorem m0b (n:Nat) (d:a0a) (n_:Int):k0t (n+1) d n_ =
 some (d.1,(d.2.1,((if n_<0 then (0:Int) else n_),d.2.2.2))):=by kernel_rfl
theorem h0h (n:Nat) (d:a0a) (n_:Int):d0p (n+1) d n_ =
 some (d.1,(d.2.1,((if n_<0 then (0:Int) else n_),d.2.2.2))):=by kernel_rfl
theorem n0o (n:Nat) (d:a0a) (keep:(List Bool)):i0w (n+1) d keep =
 a0e (c0p n a0j (keep,(d,(([],([],(0,false))),([],(d.2.1,((((List.length d.2.1):Nat):Int),(0,())))))))) fun r0 =>
 l0y (fun y1 =>
 a0e (d0m n y1.1 y1.2.2.1) fun r2 =>
 some ((r2.1,(r2.2.1,(0,false))),(((List.length y1.2.2.1):Nat):Int))) (fun z3 =>
 some z3) r0:=by kernel_rfl
theorem g0f (n f:Nat) (keep:(List Bool)) (d_:a0a) (s4:a0a) (l:(List (Int×List UInt8))) (s10:(List (Int×List UInt8))) (s11:Int) (s12:Int):c0p n (f+1) (keep,d_,s4,l,s10,s11,s12,()) =
 tif ((decide (s12<s11))) (
 a0e (at? s10 s12) fun r0 =>
 tif ((decide (s12<(((List.length keep):Nat):Int)))) (
 a0e (at? keep s12) fun r1 =>
 tif (r1) (
 tif ((decide ((((List.length l)+1)*24)≤140737488355328))) (
 c0p n f (keep,(d_,(s4,((l++(r0::[])),(s10,(s11,((IntKind.wrap .i64 (s12+1)),())))))))) (
 none)) (
 c0p n f (keep,(d_,(s4,(l,(s10,(s11,((IntKind.wrap .i64 (s12+1)),()))))))))) (
 c0p n f (keep,(d_,(s4,(l,(s10,(s11,((IntKind.wrap .i64 (s12+1)),()))))))))) (
 some (.inl (d_,(s4,(l,()))))):=by kernel_rfl
theorem j0v (n:Nat) (d:a0a):f0m (n+1) d =
 a0e (f0d n d.1) fun r0 =>
 a0e (f0e n d.2.1) fun r1 =>
 some ((r0,(r1,d.2.2)),d):=by kernel_rfl
theorem l0g (n:Nat) (d:a0a) (i:Int):b0j (n+1) d i =
 tif (d.2.2.2) (
 some ([],14)) (
 tif ((decide (i<0))) (
 some ([],1)) (
 tif ((decide ((((List.length d.1):Nat):Int)≤i))) (
 some ([],1)) (
 a0e (at? d.1 i) fun r0 =>
 a0e (c0l n a0j (i,(r0,(d.2.1,((((List.length d.2.1):Nat):Int),(0,())))))) fun r1 =>
 l0y (fun y2 =>
 some (y2.1,0)) (fun z3 =>
 some z3) r1))):=by kernel_rfl
theorem f0j (n f:Nat) (i:Int) (s:List UInt8) (s26:(List (Int×List UInt8))) (s27:Int) (s28:Int):c0l n (f+1) (i,s,s26,s27,s28,()) =
 tif ((decide (s28<s27))) (
 a0e (at? s26 s28) fun r0 =>
 tif ((decide (r0.1=i))) (
 c0l n f (i,(r0.2,(s26,(s27,((IntKind.wrap .i64 (s28+1)),())))))) (
 c0l n f (i,(s,(s26,(s27,((IntKind.wrap .i64 (s28+1)),()))))))) (
 some (.inl (s,()))):=by kernel_rfl
theorem s0b (n:Nat) (a:(List (List UInt8))) (b:(List (List UInt8))):d0n (n+1) a b =
 tif ((!(decide ((((List.length a):Nat):Int)=(((List.length b):Nat):Int))))) (
 some false) (
 a0e (g0v n a0j (a,(b,((((List.length a):Nat):Int),(0,()))))) fun r0 =>
 l0y (fun y1 =>
 some true) (fun z2 =>
 some z2) r0):=by kernel_rfl
theorem i0r (n f:Nat) (a:(List (List UInt8))) (b:(List (List UInt8))) (s12:Int) (s13:Int):g0v n (f+1) (a,b,s12,s13,()) =
 tif ((decide (s13<s12))) (
 a0e (at? a s13) fun r0 =>
 a0e (at? b s13) fun r1 =>
 tif ((!(r0==r1))) (
 some (.inr false)) (
 g0v n f (a,(b,(s12,((IntKind.wrap .i64 (s13+1)),())))))) (
 some (.inl ())):=by kernel_rfl
theorem j0h (n:Nat) (a:(List (Int×List UInt8))) (b:(List (Int×List UInt8))):b0d (n+1) a b =
 tif ((!(decide ((((List.length a):Nat):Int)=(((List.length b):Nat):Int))))) (
 some false) (
 a0e (c0t n a0j (a,(b,((((List.length a):Nat):Int),(0,()))))) fun r0 =>
 l0y (fun y1 =>
 some true) (fun z2 =>
 some z2) r0):=by kernel_rfl
theorem e0g (n f:Nat) (a:(List (Int×List UInt8))) (b:(List (Int×List UInt8))) (s12:Int) (s13:Int):c0t n (f+1) (a,b,s12,s13,()) =
 tif ((decide (s13<s12))) (
 a0e (at? a s13) fun r0 =>
 a0e (at? b s13) fun r1 =>
 tif ((!((decide (r0.1=r1.1))&&(r0.2==r1.2)))) (
 some (.inr false)) (
 c0t n f (a,(b,(s12,((IntKind.wrap .i64 (s13+1)),())))))) (
 some (.inl ())):=by kernel_rfl
theorem h0g (n:Nat) (d:a0a):c0k (n+1) d =
 some ((((List.length d.1):Nat):Int),d):=by kernel_rfl
theorem i0u (n:Nat) (x:(List (List UInt8))) (count:Int):e0j (n+1) x count =
 tif ((decide (count<0))) (
 none) (
 a0e (j0o n (IntKind.wrap .u64 (((List.length x):Nat):Int)) (IntKind.wrap .u64 count)) fun r0 =>
 tif ((decide ((0:Int)<r0.1))) (
 none) (
 tif ((decide ((9223372036854775807:Int)<r0.2))) (
 none) (
 tif (((decide ((0:Int)≤(IntKind.wrap .i64 r0.2)))&&((decide ((IntKind.wrap .i64 r0.2)≤(IntKind.wrap .i64 r0.2)))&&(decide (((IntKind.wrap .i64 r0.2)*16)≤140737488355328))))) (
 a0e (c0h n a0j ((Go.Flat.putRow (List.replicate (Int.toNat (IntKind.wrap .i64 r0.2)) ([]:List UInt8)) 0 (List.take (List.length (List.replicate (Int.toNat (IntKind.wrap .i64 r0.2)) ([]:List UInt8))) x)),((((List.length (List.take (List.length (List.replicate (Int.toNat (IntKind.wrap .i64 r0.2)) ([]:List UInt8))) x)):Nat):Int),()))) fun r1 =>
 l0y (fun y2 =>
 some y2.1) (fun z3 =>
 some z3) r1) (
 none)))):=by kernel_rfl
theorem d0t (n f:Nat) (newslice:(List (List UInt8))) (n_:Int):c0h n (f+1) (newslice,n_,()) =
 tif ((decide (n_<(((List.length newslice):Nat):Int)))) (
 tif ((decide ((0:Int)≤n_))) (
 tif ((decide ((Int.toNat n_)≤(List.length newslice)))) (
 tif (((decide ((0:Int)≤n_))&&(decide (n_≤(((List.length newslice):Nat):Int))))) (
 tif ((decide (((Int.toNat n_)+((List.length newslice)-(Int.toNat n_)))≤(List.length newslice)))) (
 c0h n f ((Go.Flat.putRow newslice (Int.toNat n_) (List.take ((List.length newslice)-(Int.toNat n_)) (List.take ((Int.toNat n_)-0) (List.drop 0 newslice)))),((IntKind.wrap .i64 (n_+(((List.length (List.take ((List.length newslice)-(Int.toNat n_)) (List.take ((Int.toNat n_)-0) (List.drop 0 newslice)))):Nat):Int))),()))) (
 none)) (
 none)) (
 none)) (
 none)) (
 some (.inl (newslice,()))):=by kernel_rfl
theorem l0j (n:Nat) (d:a0a) (i:Int):h0d (n+1) d i =
 tif ((decide ((0:Int)≤i))) (
 some ((decide (i<(((List.length d.1):Nat):Int))),d)) (
 some (false,d)):=by kernel_rfl
theorem k0h (n:Nat) (d:a0a):e0b (n+1) d =
 tif (d.2.2.2) (
 some (14,d)) (
 tif ((decide (d.2.2.1=1))) (
 some (14,(d.1,(d.2.1,(0,true))))) (
 tif ((decide ((1:Int)<d.2.2.1))) (
 some (0,(d.1,(d.2.1,((IntKind.wrap .i64 (d.2.2.1-1)),d.2.2.2))))) (
 some (0,d)))):=by kernel_rfl
theorem k0i (n:Nat) (d:a0a) (is:((Int×Unit)→Option Bool)):e0c (n+1) d is =
 a0e (b0z n a0j (d,(is,(0,((((List.length d.2.1):Nat):Int),(0,())))))) fun r0 =>
 l0y (fun y1 =>
 some (y1.2.1,(y1.1.1,([],y1.1.2.2)))) (fun z2 =>
 some z2) r0:=by kernel_rfl
theorem e0r (n f:Nat) (d:a0a) (is:((Int×Unit)→Option Bool)) (n_:Int) (s12:Int) (s13:Int):b0z n (f+1) (d,is,n_,s12,s13,()) =
 tif ((decide (s13<s12))) (
 a0e (at? d.2.1 s13) fun r0 =>
 a0e ((d.2.1)[(Int.toNat s13)]?) fun r1 =>
 a0e (is (s13,())) fun r2 =>
 tif (r2) (
 a0e (at? d.1 r1.1) fun r3 =>
 a0e ((d.1)[(Int.toNat r1.1)]?) fun r4 =>
 b0z n f (((List.set d.1 (Int.toNat r1.1) r1.2),d.2),(is,((IntKind.wrap .i64 (n_+1)),(s12,((IntKind.wrap .i64 (s13+1)),())))))) (
 b0z n f (d,(is,(n_,(s12,((IntKind.wrap .i64 (s13+1)),()))))))) (
 some (.inl (d,(n_,())))):=by kernel_rfl
theorem i0x (n:Nat) (p0:Int):e0k (n+1) p0 =
 some true:=by kernel_rfl
theorem f0p (n:Nat) (s:(List (List UInt8))):f0d (n+1) s =
 tif ((decide ((List.length s)=0))) (
 both (
 some []) (
 tif ((decide (((0+(List.length s))*16)≤140737488355328))) (
 some ([]++s)) (
 none))) (
 tif ((decide (((0+(List.length s))*16)≤140737488355328))) (
 some ([]++s)) (
 none)):=by kernel_rfl
theorem f0q (n:Nat) (s:(List (Int×List UInt8))):f0e (n+1) s =
 tif ((decide ((List.length s)=0))) (
 both (
 some []) (
 tif ((decide (((0+(List.length s))*24)≤140737488355328))) (
 some ([]++s)) (
 none))) (
 tif ((decide (((0+(List.length s))*24)≤140737488355328))) (
 some ([]++s)) (
 none)):=by kernel_rfl
theorem k0j (n:Nat) (i:Int) (p1:(List Bool)):g0a (n+1) i p1 =
 tif ((decide (i<(((List.length p1):Nat):Int)))) (
 a0e (at? p1 i) fun r0 =>
 some r0) (
 some false):=by kernel_rfl
theorem l0d (n:Nat) (d:a0a):e0s (n+1) d =
 tif (d.2.2.2) (
 some (d,false)) (
 tif ((decide (d.2.2.1=1))) (
 some ((d.1,(d.2.1,(0,true))),false)) (
 tif ((decide ((0:Int)<d.2.2.1))) (
 some ((d.1,(d.2.1,((IntKind.wrap .i64 (d.2.2.1-1)),d.2.2.2))),true)) (
 some (d,true)))):=by kernel_rfl
theorem l0e (n:Nat) (d:a0a) (l:(List (Int×List UInt8))):d0m (n+1) d l =
 tif ((decide ((0:Int)<(((List.length l):Nat):Int)))) (
 tif ((decide (((0+(List.length d.1))*16)≤140737488355328))) (
 a0e (d0h n a0j ((([]++d.1),d.2),(([],([],(0,false))),(l,((((List.length l):Nat):Int),(0,())))))) fun r0 =>
 l0y (fun y1 =>
 some (y1.1.1,([],y1.1.2.2))) (fun z2 =>
 some z2) r0) (
 none)) (
 tif ((decide ((0:Int)<(((List.length l):Nat):Int)))) (
 a0e (at? l (0:Int)) fun r3 =>
 a0e (at? d.1 r3.1) fun r4 =>
 none) (
 some (d.1,([],d.2.2)))):=by kernel_rfl
theorem f0i (n f:Nat) (d_:a0a) (s4:a0a) (s15:(List (Int×List UInt8))) (s16:Int) (s17:Int):d0h n (f+1) (d_,s4,s15,s16,s17,()) =
 tif ((decide (s17<s16))) (
 a0e (at? s15 s17) fun r0 =>
 a0e (at? d_.1 r0.1) fun r1 =>
 a0e ((d_.1)[(Int.toNat r0.1)]?) fun r2 =>
 d0h n f (((List.set d_.1 (Int.toNat r0.1) r0.2),d_.2),(s4,(s15,(s16,((IntKind.wrap .i64 (s17+1)),())))))) (
 some (.inl (d_,(s4,())))):=by kernel_rfl
theorem l0h (n:Nat) (x:Int) (y:Int):j0o (n+1) x y =
 a0e (f0l n x y) fun r0 =>
 some r0:=by kernel_rfl
theorem j0n (n:Nat) (x:Int) (y:Int):f0l (n+1) x y =
 some ((IntKind.wrap .u64 ((IntKind.wrap .u64 ((IntKind.wrap .u64 ((shrI .u64 x (32:Int))*(shrI .u64 y (32:Int))))+(shrI .u64 (IntKind.wrap .u64 ((IntKind.wrap .u64 ((shrI .u64 x (32:Int))*(andI .u64 y (4294967295:Int))))+(shrI .u64 (IntKind.wrap .u64 ((andI .u64 x (4294967295:Int))*(andI .u64 y (4294967295:Int)))) (32:Int)))) (32:Int))))+(shrI .u64 (IntKind.wrap .u64 ((andI .u64 (IntKind.wrap .u64 ((IntKind.wrap .u64 ((shrI .u64 x (32:Int))*(andI .u64 y (4294967295:Int))))+(shrI .u64 (IntKind.wrap .u64 ((andI .u64 x (4294967295:Int))*(andI .u64 y (4294967295:Int)))) (32:Int)))) (4294967295:Int))+(IntKind.wrap .u64 ((andI .u64 x (4294967295:Int))*(shrI .u64 y (32:Int)))))) (32:Int)))),(IntKind.wrap .u64 (x*y))):=by kernel_rfl
theorem c0c (n:Nat) (x0:List (List UInt8)×(List (Int×List UInt8)×(Int×Bool))) (x1:Int):a0l (n+1) x0 x1=l0a x0 x1:=by
    have h:a0l (n+1) x0 x1=Option.bind (l0a x0 x1) (fun z=>some z):=by kernel_rfl
    rw[h];cases l0a x0 x1<;>rfl
end Go.Proofs.Ytghegadegcemjaa
