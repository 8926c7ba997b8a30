/- Trees, printed by program. -/
import Derived.Test.YtagnkfbpgkckiaaGreatTr0
import Derived.KernelRfl
set_option linter.unusedVariables false
open Go.IntKind (wrap)
namespace Go.Proofs.YtagnkfbpgkckiaaGreat
open Go.Flat
theorem z1c (n:Nat)(s:List UInt8):p1v (n+1) s =
 tif ((s.length:Int)<1) (
 some false) (
 tif ((64:Int)<(s.length:Int)) (
 some false) (
 a0a (at? s (0:Int)) fun r0 =>
 tif ((48:Int)<=(((UInt8.toNat r0):Nat):Int)) (
 a0a (at? s (0:Int)) fun r1 =>
 tif ((((UInt8.toNat r1):Nat):Int)<=57) (
 some false) (
 a0a (b0x n a0b (s,(0,()))) fun r2 =>
 b0g (fun y3 =>
 some true) (fun z4 =>
 some z4) r2)) (
 a0a (b0x n a0b (s,(0,()))) fun r5 =>
 b0g (fun y6 =>
 some true) (fun z7 =>
 some z7) r5))):=by kernel_rfl
theorem y0c (n f:Nat)(s:List UInt8)(i:Int):b0x n (f+1) (s,i,()) =
 tif (i<(s.length:Int)) (
 a0a (at? s i) fun r0 =>
 tif ((97:Int)<=(((UInt8.toNat r0):Nat):Int)) (
 tif ((((UInt8.toNat r0):Nat):Int)<=122) (
 b0x n f (s,((wrap .i64 (i+1)),()))) (
 tif ((65:Int)<=(((UInt8.toNat r0):Nat):Int)) (
 tif ((((UInt8.toNat r0):Nat):Int)<=90) (
 b0x n f (s,((wrap .i64 (i+1)),()))) (
 tif ((48:Int)<=(((UInt8.toNat r0):Nat):Int)) (
 tif ((((UInt8.toNat r0):Nat):Int)<=57) (
 b0x n f (s,((wrap .i64 (i+1)),()))) (
 tif (!((((UInt8.toNat r0):Nat):Int)=95)) (
 some (.inr false)) (
 b0x n f (s,((wrap .i64 (i+1)),()))))) (
 tif (!((((UInt8.toNat r0):Nat):Int)=95)) (
 some (.inr false)) (
 b0x n f (s,((wrap .i64 (i+1)),())))))) (
 tif ((48:Int)<=(((UInt8.toNat r0):Nat):Int)) (
 tif ((((UInt8.toNat r0):Nat):Int)<=57) (
 b0x n f (s,((wrap .i64 (i+1)),()))) (
 tif (!((((UInt8.toNat r0):Nat):Int)=95)) (
 some (.inr false)) (
 b0x n f (s,((wrap .i64 (i+1)),()))))) (
 tif (!((((UInt8.toNat r0):Nat):Int)=95)) (
 some (.inr false)) (
 b0x n f (s,((wrap .i64 (i+1)),()))))))) (
 tif ((65:Int)<=(((UInt8.toNat r0):Nat):Int)) (
 tif ((((UInt8.toNat r0):Nat):Int)<=90) (
 b0x n f (s,((wrap .i64 (i+1)),()))) (
 tif ((48:Int)<=(((UInt8.toNat r0):Nat):Int)) (
 tif ((((UInt8.toNat r0):Nat):Int)<=57) (
 b0x n f (s,((wrap .i64 (i+1)),()))) (
 tif (!((((UInt8.toNat r0):Nat):Int)=95)) (
 some (.inr false)) (
 b0x n f (s,((wrap .i64 (i+1)),()))))) (
 tif (!((((UInt8.toNat r0):Nat):Int)=95)) (
 some (.inr false)) (
 b0x n f (s,((wrap .i64 (i+1)),())))))) (
 tif ((48:Int)<=(((UInt8.toNat r0):Nat):Int)) (
 tif ((((UInt8.toNat r0):Nat):Int)<=57) (
 b0x n f (s,((wrap .i64 (i+1)),()))) (
 tif (!((((UInt8.toNat r0):Nat):Int)=95)) (
 some (.inr false)) (
 b0x n f (s,((wrap .i64 (i+1)),()))))) (
 tif (!((((UInt8.toNat r0):Nat):Int)=95)) (
 some (.inr false)) (
 b0x n f (s,((wrap .i64 (i+1)),()))))))) (
 some (.inl ())):=by kernel_rfl
theorem i0n (n:Nat)(r:(List UInt8×Bool)):d0n (n+1) r =
 a0a (e0e n a0b (r,(0,((if (10:Int)<(r.1.length:Int) then (10:Int) else (r.1.length:Int)),(0,()))))) fun r0 =>
 b0g (fun y1 =>
 a0a (c0e n y1.1) fun r2 =>
 some (0,r2)) (fun z3 =>
 some z3) r0:=by kernel_rfl
theorem d0d (n f:Nat)(r:(List UInt8×Bool))(n_:Int)(s11:Int)(s12:Int):e0e n (f+1) (r,n_,s11,s12,()) =
 tif (s12<s11) (
 a0a (at? r.1 s12) fun r0 =>
 tif ((wrap .i64 ((7:Int)*s12))<0) (
 none) (
 tif (s12=9) (
 tif ((1:Int)<(((UInt8.toNat r0):Nat):Int)) (
 some (.inl (r,()))) (
 tif (!((andI .u8 (((UInt8.toNat r0):Nat):Int) (128:Int))=0)) (
 e0e n f (r,((orI .u64 n_ (shlI .u64 (wrap .u64 (o0y .u8 (((UInt8.toNat r0):Nat):Int) (128:Int))) (wrap .i64 ((7:Int)*s12)))),(s11,((wrap .i64 (s12+1)),()))))) (
 tif ((((UInt8.toNat r0):Nat):Int)=0) (
 tif ((0:Int)<s12) (
 some (.inl (r,()))) (
 tif ((0:Int)<=(wrap .i64 (s12+1))) (
 tif ((Int.toNat (wrap .i64 (s12+1)))<=(List.length r.1)) (
 some (.inr ((orI .u64 n_ (shlI .u64 (wrap .u64 (o0y .u8 (((UInt8.toNat r0):Nat):Int) (128:Int))) (wrap .i64 ((7:Int)*s12)))),((List.drop (Int.toNat (wrap .i64 (s12+1))) (List.take (List.length r.1) r.1)),r.2)))) (
 none)) (
 none))) (
 tif ((0:Int)<=(wrap .i64 (s12+1))) (
 tif ((Int.toNat (wrap .i64 (s12+1)))<=(List.length r.1)) (
 some (.inr ((orI .u64 n_ (shlI .u64 (wrap .u64 (o0y .u8 (((UInt8.toNat r0):Nat):Int) (128:Int))) (wrap .i64 ((7:Int)*s12)))),((List.drop (Int.toNat (wrap .i64 (s12+1))) (List.take (List.length r.1) r.1)),r.2)))) (
 none)) (
 none))))) (
 tif (!((andI .u8 (((UInt8.toNat r0):Nat):Int) (128:Int))=0)) (
 e0e n f (r,((orI .u64 n_ (shlI .u64 (wrap .u64 (o0y .u8 (((UInt8.toNat r0):Nat):Int) (128:Int))) (wrap .i64 ((7:Int)*s12)))),(s11,((wrap .i64 (s12+1)),()))))) (
 tif ((((UInt8.toNat r0):Nat):Int)=0) (
 tif ((0:Int)<s12) (
 some (.inl (r,()))) (
 tif ((0:Int)<=(wrap .i64 (s12+1))) (
 tif ((Int.toNat (wrap .i64 (s12+1)))<=(List.length r.1)) (
 some (.inr ((orI .u64 n_ (shlI .u64 (wrap .u64 (o0y .u8 (((UInt8.toNat r0):Nat):Int) (128:Int))) (wrap .i64 ((7:Int)*s12)))),((List.drop (Int.toNat (wrap .i64 (s12+1))) (List.take (List.length r.1) r.1)),r.2)))) (
 none)) (
 none))) (
 tif ((0:Int)<=(wrap .i64 (s12+1))) (
 tif ((Int.toNat (wrap .i64 (s12+1)))<=(List.length r.1)) (
 some (.inr ((orI .u64 n_ (shlI .u64 (wrap .u64 (o0y .u8 (((UInt8.toNat r0):Nat):Int) (128:Int))) (wrap .i64 ((7:Int)*s12)))),((List.drop (Int.toNat (wrap .i64 (s12+1))) (List.take (List.length r.1) r.1)),r.2)))) (
 none)) (
 none)))))) (
 some (.inl (r,()))):=by kernel_rfl
theorem x1g (n:Nat)(l:(List a0d)):b2f (n+1) l =
 a0a (s0l n l) fun r0 =>
 a0a (j0y n r0 (fun y1=>u0m n y1.1)) fun r2 =>
 a0a (g0q n r2 (fun y3=>w0j n y3.1 y3.2.1)) fun r4 =>
 some r4:=by kernel_rfl
end Go.Proofs.YtagnkfbpgkckiaaGreat
