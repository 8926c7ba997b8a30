/- Trees, printed by program. -/
import Derived.Test.YtagnkfbpgkckiaaGreatTr0
import Derived.KernelRfl
set_option linter.unusedVariables false
namespace Go.Proofs.YtagnkfbpgkckiaaGreat
open Go.Flat
theorem h0s (n:Nat) (r:(List UInt8×Bool)):c0z (n+1) r =
 a0a (d0q n a0b (r,(0,((if (10:Int)<(((List.length r.1):Nat):Int) then (10:Int) else (((List.length r.1):Nat):Int)),(0,()))))) fun r0 =>
 b0z (fun y1 =>
 a0a (b0t n y1.1) fun r2 =>
 some (0,r2)) (fun z3 =>
 some z3) r0:=by kernel_rfl
theorem c0o (n f:Nat) (r:(List UInt8×Bool)) (n_:Int) (s11:Int) (s12:Int):d0q n (f+1) (r,n_,s11,s12,()) =
 tif ((decide (s12<s11))) (
 a0a (at? r.1 s12) fun r0 =>
 tif ((decide ((IntKind.wrap .i64 ((7:Int)*s12))<0))) (
 none) (
 tif ((decide (s12=9))) (
 tif ((decide ((1:Int)<(((UInt8.toNat r0):Nat):Int)))) (
 some (.inl (r,()))) (
 tif ((!(decide ((andI .u8 (((UInt8.toNat r0):Nat):Int) (128:Int))=0)))) (
 d0q n f (r,((orI .u64 n_ (shlI .u64 (IntKind.wrap .u64 (n0p .u8 (((UInt8.toNat r0):Nat):Int) (128:Int))) (IntKind.wrap .i64 ((7:Int)*s12)))),(s11,((IntKind.wrap .i64 (s12+1)),()))))) (
 tif ((decide ((((UInt8.toNat r0):Nat):Int)=0))) (
 tif ((decide ((0:Int)<s12))) (
 some (.inl (r,()))) (
 tif ((decide ((0:Int)≤(IntKind.wrap .i64 (s12+1))))) (
 tif ((decide ((Int.toNat (IntKind.wrap .i64 (s12+1)))≤(List.length r.1)))) (
 some (.inr ((orI .u64 n_ (shlI .u64 (IntKind.wrap .u64 (n0p .u8 (((UInt8.toNat r0):Nat):Int) (128:Int))) (IntKind.wrap .i64 ((7:Int)*s12)))),((List.drop (Int.toNat (IntKind.wrap .i64 (s12+1))) (List.take (List.length r.1) r.1)),r.2)))) (
 none)) (
 none))) (
 tif ((decide ((0:Int)≤(IntKind.wrap .i64 (s12+1))))) (
 tif ((decide ((Int.toNat (IntKind.wrap .i64 (s12+1)))≤(List.length r.1)))) (
 some (.inr ((orI .u64 n_ (shlI .u64 (IntKind.wrap .u64 (n0p .u8 (((UInt8.toNat r0):Nat):Int) (128:Int))) (IntKind.wrap .i64 ((7:Int)*s12)))),((List.drop (Int.toNat (IntKind.wrap .i64 (s12+1))) (List.take (List.length r.1) r.1)),r.2)))) (
 none)) (
 none))))) (
 tif ((!(decide ((andI .u8 (((UInt8.toNat r0):Nat):Int) (128:Int))=0)))) (
 d0q n f (r,((orI .u64 n_ (shlI .u64 (IntKind.wrap .u64 (n0p .u8 (((UInt8.toNat r0):Nat):Int) (128:Int))) (IntKind.wrap .i64 ((7:Int)*s12)))),(s11,((IntKind.wrap .i64 (s12+1)),()))))) (
 tif ((decide ((((UInt8.toNat r0):Nat):Int)=0))) (
 tif ((decide ((0:Int)<s12))) (
 some (.inl (r,()))) (
 tif ((decide ((0:Int)≤(IntKind.wrap .i64 (s12+1))))) (
 tif ((decide ((Int.toNat (IntKind.wrap .i64 (s12+1)))≤(List.length r.1)))) (
 some (.inr ((orI .u64 n_ (shlI .u64 (IntKind.wrap .u64 (n0p .u8 (((UInt8.toNat r0):Nat):Int) (128:Int))) (IntKind.wrap .i64 ((7:Int)*s12)))),((List.drop (Int.toNat (IntKind.wrap .i64 (s12+1))) (List.take (List.length r.1) r.1)),r.2)))) (
 none)) (
 none))) (
 tif ((decide ((0:Int)≤(IntKind.wrap .i64 (s12+1))))) (
 tif ((decide ((Int.toNat (IntKind.wrap .i64 (s12+1)))≤(List.length r.1)))) (
 some (.inr ((orI .u64 n_ (shlI .u64 (IntKind.wrap .u64 (n0p .u8 (((UInt8.toNat r0):Nat):Int) (128:Int))) (IntKind.wrap .i64 ((7:Int)*s12)))),((List.drop (Int.toNat (IntKind.wrap .i64 (s12+1))) (List.take (List.length r.1) r.1)),r.2)))) (
 none)) (
 none)))))) (
 some (.inl (r,()))):=by kernel_rfl
theorem u1f (n:Nat) (l:(List a0c)):l1l (n+1) l =
 a0a (l0q n l) fun r0 =>
 a0a (j0a n r0 (fun y1=>s0h n y1.1)) fun r2 =>
 a0a (f0w n r2 (fun y3=>t0u n y3.1 y3.2.1)) fun r4 =>
 some r4:=by kernel_rfl
end Go.Proofs.YtagnkfbpgkckiaaGreat
