/- Trees, printed by program. -/
import Derived.Test.YtefpnjjbopdplaaGreatDoorCx
import Derived.KernelRfl
set_option linter.unusedVariables false
namespace Go.Proofs.YtefpnjjbopdplaaGreatDoor
open Go.Flat
noncomputable section
abbrev TFraction:=((Int×Int)×(Int×Int))
abbrev TEvent:=(Int×(Int×(Int×Bool)))
abbrev TAsk:=((List (List UInt8×List UInt8))×(Int×(Int×Int)))
abbrev TConfig:=(Int×((Int×(Int×Int))×((Int×(Int×Int))×(Int×Int))))
abbrev TCell:=(Int×(TEvent×(TEvent×((Int×Int)×(Int×(Int×Int))))))
abbrev TSlot:=(Int×TCell)
abbrev TReply:=(Int×(TCell×(TFraction×Int)))
abbrev TSeries:=((List (List UInt8×List UInt8))×(Int×((Int×(Int×(List TEvent)))×(((List TSlot)×((List TSlot)×(List TSlot)))×TSlot))))
abbrev TState:=(TConfig×(Int×(Int×(List TSeries))))
def l38_HeatLevels (n:Nat) (m:(List (Int×Int))):Option Bool:=evF cx n 9 ((m,()):El (cx.arg 9))
def r06_Same (n:Nat) (a:(List Int)) (b:(List Int)):Option Bool:=evF cx n 24 ((a,b,()):El (cx.arg 24))
def query_Do (n:Nat) (s:TState) (a:TAsk):Option (TReply×Int):=evF cx n 28 ((s,a,()):El (cx.arg 28))
def l38_lives (n:Nat)  : Option Bool:=evF cx n 31 (():El (cx.arg 31))
def heat_Cells (n:Nat) (s:TState) (a:TAsk):Option ((List TCell)×Int):=evF cx n 33 ((s,a,()):El (cx.arg 33))
def heat_Line (n:Nat) (s:TState) (a:TAsk):Option (List UInt8×Int):=evF cx n 35 ((s,a,()):El (cx.arg 35))
def heat_Steps (n:Nat) (l:(List TCell)):Option ((List (Int×Int))×Int):=evF cx n 38 ((l,()):El (cx.arg 38))
def heat_Peak (n:Nat) (l:(List (Int×Int))):Option (Int×Bool):=evF cx n 40 ((l,()):El (cx.arg 40))
def heat_Levels (n:Nat) (l:(List (Int×Int))):Option ((List Int)×Int):=evF cx n 42 ((l,()):El (cx.arg 42))
def r38_SameWides (n:Nat) (a:(List (Int×Int))) (b:(List (Int×Int))):Option Bool:=evF cx n 44 ((a,b,()):El (cx.arg 44))
def wide_Less (n:Nat) (a:(Int×Int)) (b:(Int×Int)):Option Bool:=evF cx n 47 ((a,b,()):El (cx.arg 47))
def wide_Times (n:Nat) (a:(Int×Int)) (n_:Int):Option ((Int×Int)×Int):=evF cx n 48 ((a,n_,()):El (cx.arg 48))
def stt_New (n:Nat) (c:TConfig):Option (TState×Int):=evF cx n 65 ((c,()):El (cx.arg 65))
def l10_Fit (n:Nat)  : Option TConfig:=evF cx n 69 (():El (cx.arg 69))
def write_All (n:Nat) (s:TState) (l:(List (List UInt8×List UInt8))) (es:(List TEvent)):Option (TState×(Int×Int)):=evF cx n 70 ((s,l,es,()):El (cx.arg 70))
def wide_Of (n:Nat) (n_:Int):Option (Int×Int):=evF cx n 91 ((n_,()):El (cx.arg 91))
def wi_Span (n:Nat) (a:Int) (b:Int) (w:Int):Option (Int×(Int×Int)):=evF cx n 94 ((a,b,w,()):El (cx.arg 94))
def stt_Find (n:Nat) (s:TState) (l:(List (List UInt8×List UInt8))):Option (Int×Int):=evF cx n 95 ((s,l,()):El (cx.arg 95))
def series_Cell (n:Nat) (c:TConfig) (s:TSeries) (k:Int) (i:Int):Option (TCell×Int):=evF cx n 96 ((c,s,k,i,()):El (cx.arg 96))
def heat_level (n:Nat) (x:(Int×Int)) (times:((Int×Int)×((Int×Int)×((Int×Int)×((Int×Int)×((Int×Int)×((Int×Int)×((Int×Int)×((Int×Int)×TFraction))))))))):Option Int:=evF cx n 104 ((x,times,()):El (cx.arg 104))
def math_bits_Mul64 (n:Nat) (x:Int) (y:Int):Option (Int×Int):=evF cx n 107 ((x,y,()):El (cx.arg 107))
def wide_sure (n:Nat) (a:(Int×Int)) (over:Int):Option ((Int×Int)×Int):=evF cx n 109 ((a,over,()):El (cx.arg 109))
def l38_HeatLevels_l17 (n f:Nat) (x:((List (Int×Int))×((List Int)×(Int×(Int×(Int×Unit)))))):Option (Unit ⊕ Bool):=runLoop cx (evF cx n) 9 17 f x
def l38_HeatLevels_l22 (n f:Nat) (x:((List (Int×Int))×((List Int)×(Int×(Int×(Int×(Int×(Int×(Int×Unit))))))))):Option (((List (Int×Int))×((List Int)×(Int×(Int×(Int×Unit))))) ⊕ Bool):=runLoop cx (evF cx n) 9 22 f x
def heat_Cells_l14 (n f:Nat) (x:(TState×(TReply×(Int×((List TCell)×(Int×(Int×(Int×Unit)))))))):Option (((List TCell)×Unit) ⊕ ((List TCell)×Int)):=runLoop cx (evF cx n) 33 14 f x
def heat_Line_l10 (n f:Nat) (x:(Int×((List Int)×((List Int)×(Int×(Int×Unit)))))):Option ((Int×((List Int)×Unit)) ⊕ (List UInt8×Int)):=runLoop cx (evF cx n) 35 10 f x
def heat_Peak_l3 (n f:Nat) (x:((List (Int×Int))×(Int×((List (Int×Int))×(Int×(Int×Unit)))))):Option (((List (Int×Int))×(Int×Unit)) ⊕ (Int×Bool)):=runLoop cx (evF cx n) 40 3 f x
def heat_Levels_l6 (n f:Nat) (x:((List (Int×Int))×(Int×(((Int×Int)×((Int×Int)×((Int×Int)×((Int×Int)×((Int×Int)×((Int×Int)×((Int×Int)×((Int×Int)×TFraction))))))))×(Int×Unit))))):Option (((List (Int×Int))×(Int×(((Int×Int)×((Int×Int)×((Int×Int)×((Int×Int)×((Int×Int)×((Int×Int)×((Int×Int)×((Int×Int)×TFraction))))))))×Unit))) ⊕ ((List Int)×Int)):=runLoop cx (evF cx n) 42 6 f x
def heat_Levels_l17 (n f:Nat) (x:(((Int×Int)×((Int×Int)×((Int×Int)×((Int×Int)×((Int×Int)×((Int×Int)×((Int×Int)×((Int×Int)×TFraction))))))))×((List Int)×((List (Int×Int))×(Int×(Int×Unit)))))):Option (((List Int)×Unit) ⊕ ((List Int)×Int)):=runLoop cx (evF cx n) 42 17 f x
def heat_level_l3 (n f:Nat) (x:(((Int×Int)×((Int×Int)×((Int×Int)×((Int×Int)×((Int×Int)×((Int×Int)×((Int×Int)×((Int×Int)×TFraction))))))))×((Int×Int)×(Int×Unit)))):Option ((Int×Unit) ⊕ Int):=runLoop cx (evF cx n) 104 3 f x
theorem obs {α β:Type} (x:α) (f:α→Option β):obind (some x) f=f x:=obind_some x f
theorem tfd {α:Type} (p:Prop) [Decidable p] (x y:α):tif (decide p) x y=if p then x else y:=tif_dec p x y
theorem tff {α:Type} (x y:α):tif false x y=y:=tif_false x y
theorem tft {α:Type} (x y:α):tif true x y=x:=tif_true x y
theorem tfn {α:Type} (b:Bool) (x y:α):tif (!b) x y=tif b y x:=tif_not b x y
end
end Go.Proofs.YtefpnjjbopdplaaGreatDoor
