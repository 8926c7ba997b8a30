/- Trees, printed by program. -/
import Derived.Test.YtefpnjjbopdplaaGreatDoorTr0
import Derived.KernelRfl
set_option linter.unusedVariables false
namespace Go.Proofs.YtefpnjjbopdplaaGreatDoor
open Go.Flat
theorem wide_Of_eq (n:Nat) (n_:Int):wide_Of (n+1) n_ =
 some ((0:Int),n_):=by kernel_rfl
theorem heat_level_eq (n:Nat) (x:(Int×Int)) (times:((Int×Int)×((Int×Int)×((Int×Int)×((Int×Int)×((Int×Int)×((Int×Int)×((Int×Int)×((Int×Int)×TFraction))))))))):heat_level (n+1) x times =
 obind (wide_Times n x (9:Int)) fun r0 =>
 obind (heat_level_l3 n loopFuel (times,(r0.1,((0:Int),())))) fun r1 =>
 selim (fun y2 =>
 some y2.1) (fun z3 =>
 some z3) r1:=by kernel_rfl
theorem heat_level_l3_eq (n f:Nat) (times:((Int×Int)×((Int×Int)×((Int×Int)×((Int×Int)×((Int×Int)×((Int×Int)×((Int×Int)×((Int×Int)×TFraction))))))))) (all:(Int×Int)) (k:Int):heat_level_l3 n (f+1) (times,all,k,()) =
 tif ((decide (k<9))) (
 tif ((decide ((IntKind.wrap .i64 (k+1))=0))) (
 obind (wide_Less n all times.1) fun r0 =>
 tif ((!r0)) (
 heat_level_l3 n f (times,(all,((IntKind.wrap .i64 (k+1)),())))) (
 some (.inl (k,())))) (
 tif ((decide ((IntKind.wrap .i64 (k+1))=1))) (
 obind (wide_Less n all times.2.1) fun r1 =>
 tif ((!r1)) (
 heat_level_l3 n f (times,(all,((IntKind.wrap .i64 (k+1)),())))) (
 some (.inl (k,())))) (
 tif ((decide ((IntKind.wrap .i64 (k+1))=2))) (
 obind (wide_Less n all times.2.2.1) fun r2 =>
 tif ((!r2)) (
 heat_level_l3 n f (times,(all,((IntKind.wrap .i64 (k+1)),())))) (
 some (.inl (k,())))) (
 tif ((decide ((IntKind.wrap .i64 (k+1))=3))) (
 obind (wide_Less n all times.2.2.2.1) fun r3 =>
 tif ((!r3)) (
 heat_level_l3 n f (times,(all,((IntKind.wrap .i64 (k+1)),())))) (
 some (.inl (k,())))) (
 tif ((decide ((IntKind.wrap .i64 (k+1))=4))) (
 obind (wide_Less n all times.2.2.2.2.1) fun r4 =>
 tif ((!r4)) (
 heat_level_l3 n f (times,(all,((IntKind.wrap .i64 (k+1)),())))) (
 some (.inl (k,())))) (
 tif ((decide ((IntKind.wrap .i64 (k+1))=5))) (
 obind (wide_Less n all times.2.2.2.2.2.1) fun r5 =>
 tif ((!r5)) (
 heat_level_l3 n f (times,(all,((IntKind.wrap .i64 (k+1)),())))) (
 some (.inl (k,())))) (
 tif ((decide ((IntKind.wrap .i64 (k+1))=6))) (
 obind (wide_Less n all times.2.2.2.2.2.2.1) fun r6 =>
 tif ((!r6)) (
 heat_level_l3 n f (times,(all,((IntKind.wrap .i64 (k+1)),())))) (
 some (.inl (k,())))) (
 tif ((decide ((IntKind.wrap .i64 (k+1))=7))) (
 obind (wide_Less n all times.2.2.2.2.2.2.2.1) fun r7 =>
 tif ((!r7)) (
 heat_level_l3 n f (times,(all,((IntKind.wrap .i64 (k+1)),())))) (
 some (.inl (k,())))) (
 tif ((decide ((IntKind.wrap .i64 (k+1))=8))) (
 obind (wide_Less n all times.2.2.2.2.2.2.2.2.1) fun r8 =>
 tif ((!r8)) (
 heat_level_l3 n f (times,(all,((IntKind.wrap .i64 (k+1)),())))) (
 some (.inl (k,())))) (
 tif ((decide ((IntKind.wrap .i64 (k+1))=9))) (
 obind (wide_Less n all times.2.2.2.2.2.2.2.2.2) fun r9 =>
 tif ((!r9)) (
 heat_level_l3 n f (times,(all,((IntKind.wrap .i64 (k+1)),())))) (
 some (.inl (k,())))) (
 none))))))))))) (
 some (.inl (k,()))):=by kernel_rfl
theorem math_bits_Mul64_eq (n:Nat) (x:Int) (y:Int):math_bits_Mul64 (n+1) x y =
 some ((IntKind.wrap .u64 ((IntKind.wrap .u64 ((IntKind.wrap .u64 ((shrI .u64 x (32:Int))*(shrI .u64 y (32:Int))))+(shrI .u64 (IntKind.wrap .u64 ((IntKind.wrap .u64 ((shrI .u64 x (32:Int))*(andI .u64 y (4294967295:Int))))+(shrI .u64 (IntKind.wrap .u64 ((andI .u64 x (4294967295:Int))*(andI .u64 y (4294967295:Int)))) (32:Int)))) (32:Int))))+(shrI .u64 (IntKind.wrap .u64 ((andI .u64 (IntKind.wrap .u64 ((IntKind.wrap .u64 ((shrI .u64 x (32:Int))*(andI .u64 y (4294967295:Int))))+(shrI .u64 (IntKind.wrap .u64 ((andI .u64 x (4294967295:Int))*(andI .u64 y (4294967295:Int)))) (32:Int)))) (4294967295:Int))+(IntKind.wrap .u64 ((andI .u64 x (4294967295:Int))*(shrI .u64 y (32:Int)))))) (32:Int)))),(IntKind.wrap .u64 (x*y))):=by kernel_rfl
theorem wide_sure_eq (n:Nat) (a:(Int×Int)) (over:Int):wide_sure (n+1) a over =
 tif ((!(decide (over=0)))) (
 some (((0:Int),(0:Int)),(1:Int))) (
 some (a,(0:Int))):=by kernel_rfl
end Go.Proofs.YtefpnjjbopdplaaGreatDoor
