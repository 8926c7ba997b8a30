/- Trees, printed by program. -/
import Derived.Test.YtagnkfbpgkckiaaGreatTr0
import Derived.KernelRfl
set_option linter.unusedVariables false
namespace Go.Proofs.YtagnkfbpgkckiaaGreat
open Go.Flat
theorem v1s (n:Nat) (s:List UInt8):m1o (n+1) s =
 tif ((decide ((((List.length s):Nat):Int)<1))) (
 some false) (
 tif ((decide ((64:Int)<(((List.length s):Nat):Int)))) (
 some false) (
 a0a (at? s (0:Int)) fun r0 =>
 tif ((decide ((48:Int)≤(((UInt8.toNat r0):Nat):Int)))) (
 a0a (at? s (0:Int)) fun r1 =>
 tif ((decide ((((UInt8.toNat r1):Nat):Int)≤57))) (
 some false) (
 a0a (b0u n a0b (s,(0,()))) fun r2 =>
 b0m (fun y3 =>
 some true) (fun z4 =>
 some z4) r2)) (
 a0a (b0u n a0b (s,(0,()))) fun r5 =>
 b0m (fun y6 =>
 some true) (fun z7 =>
 some z7) r5))):=by kernel_rfl
theorem v0p (n f:Nat) (s:List UInt8) (i:Int):b0u n (f+1) (s,i,()) =
 tif ((decide (i<(((List.length s):Nat):Int)))) (
 a0a (at? s i) fun r0 =>
 tif ((decide ((97:Int)≤(((UInt8.toNat r0):Nat):Int)))) (
 tif ((decide ((((UInt8.toNat r0):Nat):Int)≤122))) (
 b0u n f (s,((IntKind.wrap .i64 (i+1)),()))) (
 tif ((decide ((65:Int)≤(((UInt8.toNat r0):Nat):Int)))) (
 tif ((decide ((((UInt8.toNat r0):Nat):Int)≤90))) (
 b0u n f (s,((IntKind.wrap .i64 (i+1)),()))) (
 tif ((decide ((48:Int)≤(((UInt8.toNat r0):Nat):Int)))) (
 tif ((decide ((((UInt8.toNat r0):Nat):Int)≤57))) (
 b0u n f (s,((IntKind.wrap .i64 (i+1)),()))) (
 tif ((!(decide ((((UInt8.toNat r0):Nat):Int)=95)))) (
 some (.inr false)) (
 b0u n f (s,((IntKind.wrap .i64 (i+1)),()))))) (
 tif ((!(decide ((((UInt8.toNat r0):Nat):Int)=95)))) (
 some (.inr false)) (
 b0u n f (s,((IntKind.wrap .i64 (i+1)),())))))) (
 tif ((decide ((48:Int)≤(((UInt8.toNat r0):Nat):Int)))) (
 tif ((decide ((((UInt8.toNat r0):Nat):Int)≤57))) (
 b0u n f (s,((IntKind.wrap .i64 (i+1)),()))) (
 tif ((!(decide ((((UInt8.toNat r0):Nat):Int)=95)))) (
 some (.inr false)) (
 b0u n f (s,((IntKind.wrap .i64 (i+1)),()))))) (
 tif ((!(decide ((((UInt8.toNat r0):Nat):Int)=95)))) (
 some (.inr false)) (
 b0u n f (s,((IntKind.wrap .i64 (i+1)),()))))))) (
 tif ((decide ((65:Int)≤(((UInt8.toNat r0):Nat):Int)))) (
 tif ((decide ((((UInt8.toNat r0):Nat):Int)≤90))) (
 b0u n f (s,((IntKind.wrap .i64 (i+1)),()))) (
 tif ((decide ((48:Int)≤(((UInt8.toNat r0):Nat):Int)))) (
 tif ((decide ((((UInt8.toNat r0):Nat):Int)≤57))) (
 b0u n f (s,((IntKind.wrap .i64 (i+1)),()))) (
 tif ((!(decide ((((UInt8.toNat r0):Nat):Int)=95)))) (
 some (.inr false)) (
 b0u n f (s,((IntKind.wrap .i64 (i+1)),()))))) (
 tif ((!(decide ((((UInt8.toNat r0):Nat):Int)=95)))) (
 some (.inr false)) (
 b0u n f (s,((IntKind.wrap .i64 (i+1)),())))))) (
 tif ((decide ((48:Int)≤(((UInt8.toNat r0):Nat):Int)))) (
 tif ((decide ((((UInt8.toNat r0):Nat):Int)≤57))) (
 b0u n f (s,((IntKind.wrap .i64 (i+1)),()))) (
 tif ((!(decide ((((UInt8.toNat r0):Nat):Int)=95)))) (
 some (.inr false)) (
 b0u n f (s,((IntKind.wrap .i64 (i+1)),()))))) (
 tif ((!(decide ((((UInt8.toNat r0):Nat):Int)=95)))) (
 some (.inr false)) (
 b0u n f (s,((IntKind.wrap .i64 (i+1)),()))))))) (
 some (.inl ())):=by kernel_rfl
theorem h0s (n:Nat) (r:(List UInt8×Bool)):d0f (n+1) r =
 a0a (d0u n a0b (r,(0,((if (10:Int)<(((List.length r.1):Nat):Int) then (10:Int) else (((List.length r.1):Nat):Int)),(0,()))))) fun r0 =>
 b0m (fun y1 =>
 a0a (b0y n y1.1) fun r2 =>
 some (0,r2)) (fun z3 =>
 some z3) r0:=by kernel_rfl
theorem c0t (n f:Nat) (r:(List UInt8×Bool)) (n_:Int) (s11:Int) (s12:Int):d0u n (f+1) (r,n_,s11,s12,()) =
 tif ((decide (s12<s11))) (
 a0a (at? r.1 s12) fun r0 =>
 tif ((decide ((IntKind.wrap .i64 ((7:Int)*s12))<0))) (
 none) (
 tif ((decide (s12=9))) (
 tif ((decide ((1:Int)<(((UInt8.toNat r0):Nat):Int)))) (
 some (.inl (r,()))) (
 tif ((!(decide ((andI .u8 (((UInt8.toNat r0):Nat):Int) (128:Int))=0)))) (
 d0u n f (r,((orI .u64 n_ (shlI .u64 (IntKind.wrap .u64 (n0t .u8 (((UInt8.toNat r0):Nat):Int) (128:Int))) (IntKind.wrap .i64 ((7:Int)*s12)))),(s11,((IntKind.wrap .i64 (s12+1)),()))))) (
 tif ((decide ((((UInt8.toNat r0):Nat):Int)=0))) (
 tif ((decide ((0:Int)<s12))) (
 some (.inl (r,()))) (
 tif ((decide ((0:Int)≤(IntKind.wrap .i64 (s12+1))))) (
 tif ((decide ((Int.toNat (IntKind.wrap .i64 (s12+1)))≤(List.length r.1)))) (
 some (.inr ((orI .u64 n_ (shlI .u64 (IntKind.wrap .u64 (n0t .u8 (((UInt8.toNat r0):Nat):Int) (128:Int))) (IntKind.wrap .i64 ((7:Int)*s12)))),((List.drop (Int.toNat (IntKind.wrap .i64 (s12+1))) (List.take (List.length r.1) r.1)),r.2)))) (
 none)) (
 none))) (
 tif ((decide ((0:Int)≤(IntKind.wrap .i64 (s12+1))))) (
 tif ((decide ((Int.toNat (IntKind.wrap .i64 (s12+1)))≤(List.length r.1)))) (
 some (.inr ((orI .u64 n_ (shlI .u64 (IntKind.wrap .u64 (n0t .u8 (((UInt8.toNat r0):Nat):Int) (128:Int))) (IntKind.wrap .i64 ((7:Int)*s12)))),((List.drop (Int.toNat (IntKind.wrap .i64 (s12+1))) (List.take (List.length r.1) r.1)),r.2)))) (
 none)) (
 none))))) (
 tif ((!(decide ((andI .u8 (((UInt8.toNat r0):Nat):Int) (128:Int))=0)))) (
 d0u n f (r,((orI .u64 n_ (shlI .u64 (IntKind.wrap .u64 (n0t .u8 (((UInt8.toNat r0):Nat):Int) (128:Int))) (IntKind.wrap .i64 ((7:Int)*s12)))),(s11,((IntKind.wrap .i64 (s12+1)),()))))) (
 tif ((decide ((((UInt8.toNat r0):Nat):Int)=0))) (
 tif ((decide ((0:Int)<s12))) (
 some (.inl (r,()))) (
 tif ((decide ((0:Int)≤(IntKind.wrap .i64 (s12+1))))) (
 tif ((decide ((Int.toNat (IntKind.wrap .i64 (s12+1)))≤(List.length r.1)))) (
 some (.inr ((orI .u64 n_ (shlI .u64 (IntKind.wrap .u64 (n0t .u8 (((UInt8.toNat r0):Nat):Int) (128:Int))) (IntKind.wrap .i64 ((7:Int)*s12)))),((List.drop (Int.toNat (IntKind.wrap .i64 (s12+1))) (List.take (List.length r.1) r.1)),r.2)))) (
 none)) (
 none))) (
 tif ((decide ((0:Int)≤(IntKind.wrap .i64 (s12+1))))) (
 tif ((decide ((Int.toNat (IntKind.wrap .i64 (s12+1)))≤(List.length r.1)))) (
 some (.inr ((orI .u64 n_ (shlI .u64 (IntKind.wrap .u64 (n0t .u8 (((UInt8.toNat r0):Nat):Int) (128:Int))) (IntKind.wrap .i64 ((7:Int)*s12)))),((List.drop (Int.toNat (IntKind.wrap .i64 (s12+1))) (List.take (List.length r.1) r.1)),r.2)))) (
 none)) (
 none)))))) (
 some (.inl (r,()))):=by kernel_rfl
theorem u1a (n:Nat) (l:(List a0d)):x1o (n+1) l =
 a0a (q0s n l) fun r0 =>
 a0a (j0a n r0 (fun y1=>s0o n y1.1)) fun r2 =>
 a0a (g0b n r2 (fun y3=>u0e n y3.1 y3.2.1)) fun r4 =>
 some r4:=by kernel_rfl
end Go.Proofs.YtagnkfbpgkckiaaGreat
