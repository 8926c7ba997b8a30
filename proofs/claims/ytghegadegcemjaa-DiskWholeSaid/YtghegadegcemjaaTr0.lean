/- Trees, printed by program. -/
import Derived.Test.YtghegadegcemjaaCx
import Derived.KernelRfl
set_option linter.unusedVariables false
namespace Go.Proofs.Ytghegadegcemjaa
open Go.Flat
noncomputable section
abbrev Tplimsolllaw25_Act:=(Int×(Int×(Int×(Bool×(List Bool)))))
abbrev Tplimsollref25_Disk:=((List (List UInt8))×((List (Int×List UInt8))×(Int×Bool)))
def l25_DiskWhole (n:Nat) (n_:Int) (before:(List Tplimsolllaw25_Act)) (behind:(List Tplimsolllaw25_Act)) (keep:(List Bool)):Option Bool:=evF cx n 3 ((n_,before,behind,keep,()):El (cx.arg 3))
def l25_lives (n:Nat)  : Option Bool:=evF cx n 5 (():El (cx.arg 5))
def disk_New (n:Nat) (n_:Int):Option ((Option Tplimsollref25_Disk)×Int):=evF cx n 6 ((n_,()):El (cx.arg 6))
def disk_Disk_Write (n:Nat) (d:Tplimsollref25_Disk) (i:Int) (s:List UInt8):Option (Int×Tplimsollref25_Disk):=evF cx n 7 ((d,i,s,()):El (cx.arg 7))
def l25_text (n:Nat) (c:Int):Option (List UInt8):=evF cx n 8 ((c,()):El (cx.arg 8))
def disk_Disk_Sync (n:Nat) (d:Tplimsollref25_Disk):Option (Int×Tplimsollref25_Disk):=evF cx n 9 ((d,()):El (cx.arg 9))
def disk_Disk_Safe (n:Nat) (d:Tplimsollref25_Disk):Option ((List (List UInt8))×Tplimsollref25_Disk):=evF cx n 10 ((d,()):El (cx.arg 10))
def disk_Disk_Pending (n:Nat) (d:Tplimsollref25_Disk):Option ((List (Int×List UInt8))×Tplimsollref25_Disk):=evF cx n 11 ((d,()):El (cx.arg 11))
def disk_Disk_Up (n:Nat) (d:Tplimsollref25_Disk) (keep:(List Bool)):Option (Int×Tplimsollref25_Disk):=evF cx n 12 ((d,keep,()):El (cx.arg 12))
def disk_Disk_Read (n:Nat) (d:Tplimsollref25_Disk) (i:Int):Option (List UInt8×(Int×Tplimsollref25_Disk)):=evF cx n 13 ((d,i,()):El (cx.arg 13))
def disk_Disk_Down (n:Nat) (d:Tplimsollref25_Disk):Option (Bool×Tplimsollref25_Disk):=evF cx n 14 ((d,()):El (cx.arg 14))
def disk_Disk_Arm (n:Nat) (d:Tplimsollref25_Disk) (n_:Int):Option Tplimsollref25_Disk:=evF cx n 19 ((d,n_,()):El (cx.arg 19))
def disk_Disk_Len (n:Nat) (d:Tplimsollref25_Disk):Option (Int×Tplimsollref25_Disk):=evF cx n 25 ((d,()):El (cx.arg 25))
def sl_Repeat_string (n:Nat) (x:(List (List UInt8))) (count:Int):Option (List (List UInt8)):=evF cx n 26 ((x,count,()):El (cx.arg 26))
def strings_Repeat (n:Nat) (s:List UInt8) (count:Int):Option (List UInt8):=evF cx n 27 ((s,count,()):El (cx.arg 27))
def disk_Disk_has (n:Nat) (d:Tplimsollref25_Disk) (i:Int):Option (Bool×Tplimsollref25_Disk):=evF cx n 28 ((d,i,()):El (cx.arg 28))
def disk_Disk_step (n:Nat) (d:Tplimsollref25_Disk):Option (Int×Tplimsollref25_Disk):=evF cx n 29 ((d,()):El (cx.arg 29))
def disk_Disk_keep (n:Nat) (d:Tplimsollref25_Disk) (is:((Int×Unit)→Option Bool)):Option (Int×Tplimsollref25_Disk):=evF cx n 30 ((d,is,()):El (cx.arg 30))
def disk_Disk_Sync_1 (n:Nat) (p0:Int):Option Bool:=evF cx n 31 ((p0,()):El (cx.arg 31))
def sl_Clone_string (n:Nat) (s:(List (List UInt8))):Option (List (List UInt8)):=evF cx n 32 ((s,()):El (cx.arg 32))
def sl_Clone_Change (n:Nat) (s:(List (Int×List UInt8))):Option (List (Int×List UInt8)):=evF cx n 33 ((s,()):El (cx.arg 33))
def disk_Disk_Up_1 (n:Nat) (i:Int) (p1:(List Bool)):Option Bool:=evF cx n 34 ((i,p1,()):El (cx.arg 34))
def math_bits_Mul (n:Nat) (x:Int) (y:Int):Option (Int×Int):=evF cx n 38 ((x,y,()):El (cx.arg 38))
def math_bits_Mul64 (n:Nat) (x:Int) (y:Int):Option (Int×Int):=evF cx n 46 ((x,y,()):El (cx.arg 46))
def l25_DiskWhole_l7 (n f:Nat) (x:((List Tplimsolllaw25_Act)×((List Bool)×(Tplimsollref25_Disk×((List Tplimsolllaw25_Act)×(Int×(Int×Unit))))))):Option (((List Tplimsolllaw25_Act)×((List Bool)×(Tplimsollref25_Disk×Unit))) ⊕ Bool):=runLoop cx (evF cx n) 3 7 f x
def l25_DiskWhole_l16 (n f:Nat) (x:((List Tplimsolllaw25_Act)×((List Bool)×(Tplimsollref25_Disk×((List (List UInt8))×(Int×((List Tplimsolllaw25_Act)×(Int×(Int×Unit))))))))):Option (((List Tplimsolllaw25_Act)×((List Bool)×(Tplimsollref25_Disk×((List (List UInt8))×(Int×Unit))))) ⊕ Bool):=runLoop cx (evF cx n) 3 16 f x
def l25_DiskWhole_l25 (n f:Nat) (x:((List Tplimsolllaw25_Act)×((List Bool)×(Tplimsollref25_Disk×((List (List UInt8))×((List (List UInt8))×(Int×(Int×Unit)))))))):Option ((Tplimsollref25_Disk×Unit) ⊕ Bool):=runLoop cx (evF cx n) 3 25 f x
def l25_DiskWhole_l29 (n f:Nat) (x:((List Tplimsolllaw25_Act)×((List Bool)×(Tplimsollref25_Disk×((List (List UInt8))×(Int×(List UInt8×(Bool×((List (List UInt8))×(Int×(Int×((List Tplimsolllaw25_Act)×(Int×(Int×Unit)))))))))))))):Option (((List Tplimsolllaw25_Act)×((List Bool)×(Tplimsollref25_Disk×((List (List UInt8))×(Int×(List UInt8×(Bool×((List (List UInt8))×(Int×(Int×Unit)))))))))) ⊕ Bool):=runLoop cx (evF cx n) 3 29 f x
def sl_Repeat_string_l8 (n f:Nat) (x:((List (List UInt8))×(Int×Unit))):Option (((List (List UInt8))×Unit) ⊕ (List (List UInt8))):=runLoop cx (evF cx n) 26 8 f x
def disk_Disk_keep_l3 (n f:Nat) (x:(Tplimsollref25_Disk×(((Int×Unit)→Option Bool)×(Int×(Int×(Int×Unit)))))):Option ((Tplimsollref25_Disk×(Int×Unit)) ⊕ (Int×Tplimsollref25_Disk)):=runLoop cx (evF cx n) 30 3 f x
theorem obs {α β:Type} (x:α) (f:α→Option β):obind (some x) f=f x:=obind_some x f
theorem tfd {α:Type} (p:Prop) [Decidable p] (x y:α):tif (decide p) x y=if p then x else y:=tif_dec p x y
theorem tff {α:Type} (x y:α):tif false x y=y:=tif_false x y
theorem tft {α:Type} (x y:α):tif true x y=x:=tif_true x y
theorem tfn {α:Type} (b:Bool) (x y:α):tif (!b) x y=tif b y x:=by cases b <;> rfl
end
end Go.Proofs.Ytghegadegcemjaa
