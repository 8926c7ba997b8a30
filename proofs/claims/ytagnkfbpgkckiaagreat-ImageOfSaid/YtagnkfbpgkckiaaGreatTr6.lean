/- Trees, printed by program. -/
import Derived.Test.YtagnkfbpgkckiaaGreatTr0
import Derived.KernelRfl
set_option linter.unusedVariables false
open Go.IntKind (wrap)
namespace Go.Proofs.YtagnkfbpgkckiaaGreat
open Go.Flat
theorem t1h (n:Nat)(c:a0r)(l:(List (List UInt8))):r0d (n+1) c l =
 a0a (at? l (0:Int)) fun r0 =>
 a0a (at? r0 (0:Int)) fun r1 =>
 a0a (at? r0 (1:Int)) fun r2 =>
 tif ((wrap .i64 ((wrap .i64 ((wrap .i64 (((UInt8.toNat r1):Nat):Int))*256))+(wrap .i64 (((UInt8.toNat r2):Nat):Int))))=0) (
 some ([],((0:Int),(((0:Int),((0:Int),[])),(([],([],[])),((0:Int),((0:Int),(((0:Int),((0:Int),((0:Int),false))),(((0:Int),((0:Int),((0:Int),false))),(((0:Int),(0:Int)),((0:Int),((0:Int),(0:Int))))))))))))) (
 tif ((320:Int)<(wrap .i64 ((wrap .i64 ((wrap .i64 (((UInt8.toNat r1):Nat):Int))*256))+(wrap .i64 (((UInt8.toNat r2):Nat):Int))))) (
 some ([],((0:Int),(((0:Int),((0:Int),[])),(([],([],[])),((0:Int),((0:Int),(((0:Int),((0:Int),((0:Int),false))),(((0:Int),((0:Int),((0:Int),false))),(((0:Int),(0:Int)),((0:Int),((0:Int),(0:Int))))))))))))) (
 tif (((2:Int)<=(wrap .i64 ((2:Int)+(wrap .i64 ((wrap .i64 ((wrap .i64 (((UInt8.toNat r1):Nat):Int))*256))+(wrap .i64 (((UInt8.toNat r2):Nat):Int)))))))&&((wrap .i64 ((2:Int)+(wrap .i64 ((wrap .i64 ((wrap .i64 (((UInt8.toNat r1):Nat):Int))*256))+(wrap .i64 (((UInt8.toNat r2):Nat):Int))))))<=(r0.length:Int))) (
 a0a (u1l n (List.drop 2 (List.take (Int.toNat (wrap .i64 ((2:Int)+(wrap .i64 ((wrap .i64 ((wrap .i64 (((UInt8.toNat r1):Nat):Int))*256))+(wrap .i64 (((UInt8.toNat r2):Nat):Int))))))) r0))) fun r3 =>
 a0a (c0y n r0 (322:Int)) fun r4 =>
 a0a (c0y n r0 (330:Int)) fun r5 =>
 a0a (c0y n r0 (338:Int)) fun r6 =>
 a0a (at? r0 (346:Int)) fun r7 =>
 a0a (at? r0 (347:Int)) fun r8 =>
 a0a (w0s n r0 (348:Int)) fun r9 =>
 a0a (c0x n c.1 (16:Int)) fun r10 =>
 tif (((1:Int)<=(wrap .i64 ((1:Int)+r10)))&&((wrap .i64 ((1:Int)+r10))<=(l.length:Int))) (
 a0a (k0b n a0b (l,(c,(([],((0:Int),(((0:Int),((0:Int),[])),(([],([],[])),((0:Int),((0:Int),(((0:Int),((0:Int),((0:Int),false))),(((0:Int),((0:Int),((0:Int),false))),(((0:Int),(0:Int)),((0:Int),((0:Int),(0:Int)))))))))))),((r3.1,(r4,((r5,(r6,[])),(([],([],[])),r9)))),((wrap .i64 ((wrap .i64 ((wrap .i64 (((UInt8.toNat r7):Nat):Int))*256))+(wrap .i64 (((UInt8.toNat r8):Nat):Int)))),([],((List.drop 1 (List.take (Int.toNat (wrap .i64 ((1:Int)+r10))) l)),((((List.length (List.drop 1 (List.take (Int.toNat (wrap .i64 ((1:Int)+r10))) l))):Nat):Int),((0:Int),())))))))))) fun r11 =>
 b0g (fun y12 =>
 tif ((0:Int)<=y12.2.2.2.1.2.2.1.1) (
 tif (y12.2.2.2.1.2.2.1.1<=1152921504606846976) (
 tif (y12.2.2.2.2.1<=y12.2.1.1) (
 a0a (m0x n a0b (y12.1,(y12.2.1,(y12.2.2.1,(y12.2.2.2.1,(y12.2.2.2.2.1,(y12.2.2.2.2.2.1,((0:Int),())))))))) fun r13 =>
 b0g (fun y14 =>
 a0a (c0x n y14.2.1.1 (16:Int)) fun r15 =>
 a0a (b0a n a0b (y14.1,(y14.2.1,(y14.2.2.1,(y14.2.2.2.1,((wrap .i64 ((1:Int)+r15)),((0:Int),()))))))) fun r16 =>
 b0g (fun y17 =>
 some y17.2.1) (fun z18 =>
 some z18) r16) (fun z19 =>
 some z19) r13) (
 a0a (c0x n y12.2.1.1 (16:Int)) fun r20 =>
 a0a (b0a n a0b (y12.1,(y12.2.1,(y12.2.2.1,(y12.2.2.2.1,((wrap .i64 ((1:Int)+r20)),((0:Int),()))))))) fun r21 =>
 b0g (fun y22 =>
 some y22.2.1) (fun z23 =>
 some z23) r21)) (
 a0a (c0x n y12.2.1.1 (16:Int)) fun r24 =>
 a0a (b0a n a0b (y12.1,(y12.2.1,(y12.2.2.1,(y12.2.2.2.1,((wrap .i64 ((1:Int)+r24)),((0:Int),()))))))) fun r25 =>
 b0g (fun y26 =>
 some y26.2.1) (fun z27 =>
 some z27) r25)) (
 a0a (c0x n y12.2.1.1 (16:Int)) fun r28 =>
 a0a (b0a n a0b (y12.1,(y12.2.1,(y12.2.2.1,(y12.2.2.2.1,((wrap .i64 ((1:Int)+r28)),((0:Int),()))))))) fun r29 =>
 b0g (fun y30 =>
 some y30.2.1) (fun z31 =>
 some z31) r29)) (fun z32 =>
 some z32) r11) (
 none)) (
 none))):=by kernel_rfl
theorem t0z (n f:Nat)(l:(List (List UInt8)))(c_:a0r)(s4:a0f)(x:a0f)(many:Int)(raw:List UInt8)(s74:(List (List UInt8)))(s75:Int)(s76:Int):k0b n (f+1) (l,c_,s4,x,many,raw,s74,s75,s76,()) =
 tif (s76<s75) (
 a0a (at? s74 s76) fun r0 =>
 tif (((List.length raw)+(List.length r0))<=9223372036854775807) (
 k0b n f (l,(c_,(s4,(x,(many,((raw++r0),(s74,(s75,((wrap .i64 (s76+1)),())))))))))) (
 none)) (
 some (.inl (l,(c_,(s4,(x,(many,(raw,())))))))):=by kernel_rfl
theorem t0y (n f:Nat)(l:(List (List UInt8)))(c_:a0r)(s4:a0f)(x:a0f)(many:Int)(raw:List UInt8)(k:Int):m0x n (f+1) (l,c_,s4,x,many,raw,k,()) =
 tif (k<many) (
 tif (c_.1=0) (
 none) (
 a0a (u0v n raw (wrap .i64 ((32:Int)*(Int.tmod (wrap .i64 (x.2.2.1.1+k)) c_.1)))) fun r0 =>
 tif ((((List.length x.2.2.1.2.2)+1)*32)<=140737488355328) (
 m0x n f (l,(c_,(s4,((x.1,(x.2.1,((x.2.2.1.1,(x.2.2.1.2.1,(x.2.2.1.2.2++(r0::[])))),x.2.2.2))),(many,(raw,((wrap .i64 (k+1)),())))))))) (
 none))) (
 some (.inl (l,(c_,(s4,(x,())))))):=by kernel_rfl
theorem a1u (n f:Nat)(l:(List (List UInt8)))(c_:a0r)(s4:a0f)(x:a0f)(at__:Int):b0a n (f+1) (l,c_,s4,x,at__,(0:Int),()) =
 a0a (c0x n c_.2.2.1.1 (4:Int)) fun r0 =>
 tif ((0:Int)<=at__) (
 tif (((((Int.toNat at__):Nat):Int)<=(wrap .i64 (at__+r0)))&&((wrap .i64 (at__+r0))<=(l.length:Int))) (
 a0a (h0w n a0b (l,(c_,(s4,(x,(at__,((0:Int),([],((List.drop (Int.toNat at__) (List.take (Int.toNat (wrap .i64 (at__+r0))) l)),((((List.length (List.drop (Int.toNat at__) (List.take (Int.toNat (wrap .i64 (at__+r0))) l))):Nat):Int),((0:Int),()))))))))))) fun r1 =>
 b0g (fun y2 =>
 a0a (c0s n a0b (y2.1,(y2.2.1,(y2.2.2.1,(y2.2.2.2.1,(y2.2.2.2.2.1,(y2.2.2.2.2.2.1,(y2.2.2.2.2.2.2.1,((0:Int),()))))))))) fun r3 =>
 b0g (fun y4 =>
 tif (y4.2.2.2.2.2.1=0) (
 a0a (c0x n y4.2.1.2.2.1.1 (4:Int)) fun r5 =>
 b0a n f (y4.1,(y4.2.1,(y4.2.2.1,(y4.2.2.2.1,((wrap .i64 (y4.2.2.2.2.1+r5)),((wrap .i64 (y4.2.2.2.2.2.1+1)),()))))))) (
 tif (y4.2.2.2.2.2.1=1) (
 a0a (c0x n y4.2.1.2.2.1.2.1 (4:Int)) fun r6 =>
 b0a n f (y4.1,(y4.2.1,(y4.2.2.1,(y4.2.2.2.1,((wrap .i64 (y4.2.2.2.2.1+r6)),((wrap .i64 (y4.2.2.2.2.2.1+1)),()))))))) (
 tif (y4.2.2.2.2.2.1=2) (
 a0a (c0x n y4.2.1.2.2.1.2.2 (4:Int)) fun r7 =>
 b0a n f (y4.1,(y4.2.1,(y4.2.2.1,(y4.2.2.2.1,((wrap .i64 (y4.2.2.2.2.1+r7)),((wrap .i64 (y4.2.2.2.2.2.1+1)),()))))))) (
 none)))) (fun z8 =>
 some (.inr z8)) r3) (fun z9 =>
 some (.inr z9)) r1) (
 none)) (
 none):=by kernel_rfl
theorem a1t (n f:Nat)(l:(List (List UInt8)))(c_:a0r)(s4:a0f)(x:a0f)(at__:Int):b0a n (f+1) (l,c_,s4,x,at__,(1:Int),()) =
 a0a (c0x n c_.2.2.1.2.1 (4:Int)) fun r0 =>
 tif ((0:Int)<=at__) (
 tif (((((Int.toNat at__):Nat):Int)<=(wrap .i64 (at__+r0)))&&((wrap .i64 (at__+r0))<=(l.length:Int))) (
 a0a (h0w n a0b (l,(c_,(s4,(x,(at__,((1:Int),([],((List.drop (Int.toNat at__) (List.take (Int.toNat (wrap .i64 (at__+r0))) l)),((((List.length (List.drop (Int.toNat at__) (List.take (Int.toNat (wrap .i64 (at__+r0))) l))):Nat):Int),((0:Int),()))))))))))) fun r1 =>
 b0g (fun y2 =>
 a0a (c0s n a0b (y2.1,(y2.2.1,(y2.2.2.1,(y2.2.2.2.1,(y2.2.2.2.2.1,(y2.2.2.2.2.2.1,(y2.2.2.2.2.2.2.1,((0:Int),()))))))))) fun r3 =>
 b0g (fun y4 =>
 tif (y4.2.2.2.2.2.1=0) (
 a0a (c0x n y4.2.1.2.2.1.1 (4:Int)) fun r5 =>
 b0a n f (y4.1,(y4.2.1,(y4.2.2.1,(y4.2.2.2.1,((wrap .i64 (y4.2.2.2.2.1+r5)),((wrap .i64 (y4.2.2.2.2.2.1+1)),()))))))) (
 tif (y4.2.2.2.2.2.1=1) (
 a0a (c0x n y4.2.1.2.2.1.2.1 (4:Int)) fun r6 =>
 b0a n f (y4.1,(y4.2.1,(y4.2.2.1,(y4.2.2.2.1,((wrap .i64 (y4.2.2.2.2.1+r6)),((wrap .i64 (y4.2.2.2.2.2.1+1)),()))))))) (
 tif (y4.2.2.2.2.2.1=2) (
 a0a (c0x n y4.2.1.2.2.1.2.2 (4:Int)) fun r7 =>
 b0a n f (y4.1,(y4.2.1,(y4.2.2.1,(y4.2.2.2.1,((wrap .i64 (y4.2.2.2.2.1+r7)),((wrap .i64 (y4.2.2.2.2.2.1+1)),()))))))) (
 none)))) (fun z8 =>
 some (.inr z8)) r3) (fun z9 =>
 some (.inr z9)) r1) (
 none)) (
 none):=by kernel_rfl
theorem a1s (n f:Nat)(l:(List (List UInt8)))(c_:a0r)(s4:a0f)(x:a0f)(at__:Int):b0a n (f+1) (l,c_,s4,x,at__,(2:Int),()) =
 a0a (c0x n c_.2.2.1.2.2 (4:Int)) fun r0 =>
 tif ((0:Int)<=at__) (
 tif (((((Int.toNat at__):Nat):Int)<=(wrap .i64 (at__+r0)))&&((wrap .i64 (at__+r0))<=(l.length:Int))) (
 a0a (h0w n a0b (l,(c_,(s4,(x,(at__,((2:Int),([],((List.drop (Int.toNat at__) (List.take (Int.toNat (wrap .i64 (at__+r0))) l)),((((List.length (List.drop (Int.toNat at__) (List.take (Int.toNat (wrap .i64 (at__+r0))) l))):Nat):Int),((0:Int),()))))))))))) fun r1 =>
 b0g (fun y2 =>
 a0a (c0s n a0b (y2.1,(y2.2.1,(y2.2.2.1,(y2.2.2.2.1,(y2.2.2.2.2.1,(y2.2.2.2.2.2.1,(y2.2.2.2.2.2.2.1,((0:Int),()))))))))) fun r3 =>
 b0g (fun y4 =>
 tif (y4.2.2.2.2.2.1=0) (
 a0a (c0x n y4.2.1.2.2.1.1 (4:Int)) fun r5 =>
 b0a n f (y4.1,(y4.2.1,(y4.2.2.1,(y4.2.2.2.1,((wrap .i64 (y4.2.2.2.2.1+r5)),((wrap .i64 (y4.2.2.2.2.2.1+1)),()))))))) (
 tif (y4.2.2.2.2.2.1=1) (
 a0a (c0x n y4.2.1.2.2.1.2.1 (4:Int)) fun r6 =>
 b0a n f (y4.1,(y4.2.1,(y4.2.2.1,(y4.2.2.2.1,((wrap .i64 (y4.2.2.2.2.1+r6)),((wrap .i64 (y4.2.2.2.2.2.1+1)),()))))))) (
 tif (y4.2.2.2.2.2.1=2) (
 a0a (c0x n y4.2.1.2.2.1.2.2 (4:Int)) fun r7 =>
 b0a n f (y4.1,(y4.2.1,(y4.2.2.1,(y4.2.2.2.1,((wrap .i64 (y4.2.2.2.2.1+r7)),((wrap .i64 (y4.2.2.2.2.2.1+1)),()))))))) (
 none)))) (fun z8 =>
 some (.inr z8)) r3) (fun z9 =>
 some (.inr z9)) r1) (
 none)) (
 none):=by kernel_rfl
theorem a1r (n f:Nat)(l:(List (List UInt8)))(c_:a0r)(s4:a0f)(x:a0f)(at__:Int):b0a n (f+1) (l,c_,s4,x,at__,3,()) =
 some (.inl (s4,(x,()))):=by kernel_rfl
theorem t0x (n f:Nat)(l:(List (List UInt8)))(c_:a0r)(s4:a0f)(x:a0f)(at__:Int)(k_:Int)(t:List UInt8)(s141:(List (List UInt8)))(s142:Int)(s143:Int):h0w n (f+1) (l,c_,s4,x,at__,k_,t,s141,s142,s143,()) =
 tif (s143<s142) (
 a0a (at? s141 s143) fun r0 =>
 tif (((List.length t)+(List.length r0))<=9223372036854775807) (
 h0w n f (l,(c_,(s4,(x,(at__,(k_,((t++r0),(s141,(s142,((wrap .i64 (s143+1)),()))))))))))) (
 none)) (
 some (.inl (l,(c_,(s4,(x,(at__,(k_,(t,()))))))))):=by kernel_rfl
theorem p0k (n f:Nat)(l:(List (List UInt8)))(c_:a0r)(s4:a0f)(x:a0f)(at__:Int)(t:List UInt8)(i:Int):c0s n (f+1) (l,c_,s4,x,at__,0,t,i,()) =
 tif (i<c_.2.2.1.1) (
 a0a (w0s n t (wrap .i64 ((128:Int)*i))) fun r0 =>
 tif ((((List.length x.2.2.2.1.1)+1)*120)<=140737488355328) (
 c0s n f (l,(c_,(s4,((x.1,(x.2.1,(x.2.2.1,(((x.2.2.2.1.1++(r0::[])),x.2.2.2.1.2),x.2.2.2.2)))),(at__,(0,(t,((wrap .i64 (i+1)),()))))))))) (
 none)) (
 some (.inl (l,(c_,(s4,(x,(at__,(0,())))))))):=by kernel_rfl
theorem p0j (n f:Nat)(l:(List (List UInt8)))(c_:a0r)(s4:a0f)(x:a0f)(at__:Int)(t:List UInt8)(i:Int):c0s n (f+1) (l,c_,s4,x,at__,1,t,i,()) =
 tif (i<c_.2.2.1.2.1) (
 a0a (w0s n t (wrap .i64 ((128:Int)*i))) fun r0 =>
 tif ((((List.length x.2.2.2.1.2.1)+1)*120)<=140737488355328) (
 c0s n f (l,(c_,(s4,((x.1,(x.2.1,(x.2.2.1,((x.2.2.2.1.1,((x.2.2.2.1.2.1++(r0::[])),x.2.2.2.1.2.2)),x.2.2.2.2)))),(at__,(1,(t,((wrap .i64 (i+1)),()))))))))) (
 none)) (
 some (.inl (l,(c_,(s4,(x,(at__,(1,())))))))):=by kernel_rfl
theorem p0i (n f:Nat)(l:(List (List UInt8)))(c_:a0r)(s4:a0f)(x:a0f)(at__:Int)(t:List UInt8)(i:Int):c0s n (f+1) (l,c_,s4,x,at__,2,t,i,()) =
 tif (i<c_.2.2.1.2.2) (
 a0a (w0s n t (wrap .i64 ((128:Int)*i))) fun r0 =>
 tif ((((List.length x.2.2.2.1.2.2)+1)*120)<=140737488355328) (
 c0s n f (l,(c_,(s4,((x.1,(x.2.1,(x.2.2.1,((x.2.2.2.1.1,(x.2.2.2.1.2.1,(x.2.2.2.1.2.2++(r0::[])))),x.2.2.2.2)))),(at__,(2,(t,((wrap .i64 (i+1)),()))))))))) (
 none)) (
 some (.inl (l,(c_,(s4,(x,(at__,(2,())))))))):=by kernel_rfl
end Go.Proofs.YtagnkfbpgkckiaaGreat
