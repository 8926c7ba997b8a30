/- Trees, printed by program. -/
import Derived.Test.YtgkpkajaepphjaaGreatDoorCx
import Derived.KernelRfl
set_option linter.unusedVariables false
namespace Go.Proofs.YtgkpkajaepphjaaGreatDoor
open Go.Flat
noncomputable section
abbrev TFraction:=((Int×Int)×(Int×Int))
abbrev TEvent:=(Int×(Int×(Int×Bool)))
abbrev TAsk:=((List (List UInt8×List UInt8))×(Int×(Int×Int)))
abbrev TConfig:=(Int×((Int×(Int×Int))×((Int×(Int×Int))×(Int×Int))))
abbrev TCell:=(Int×(TEvent×(TEvent×((Int×Int)×(Int×(Int×Int))))))
abbrev TSlot:=(Int×TCell)
abbrev TReply:=(Int×(TCell×(TFraction×Int)))
abbrev TSeries:=((List (List UInt8×List UInt8))×(Int×((Int×(Int×(List TEvent)))×(((List TSlot)×((List TSlot)×(List TSlot)))×TSlot))))
abbrev TState:=(TConfig×(Int×(Int×(List TSeries))))
def l38_HeatSteps (n:Nat) (l:(List TCell)) (m:(List (Int×Int))):Option Bool:=evF cx n 7 ((l,m,()):El (cx.arg 7))
def r06_Same (n:Nat) (a:(List Int)) (b:(List Int)):Option Bool:=evF cx n 23 ((a,b,()):El (cx.arg 23))
def query_Do (n:Nat) (s:TState) (a:TAsk):Option (TReply×Int):=evF cx n 27 ((s,a,()):El (cx.arg 27))
def l38_lives (n:Nat)  : Option Bool:=evF cx n 30 (():El (cx.arg 30))
def heat_Cells (n:Nat) (s:TState) (a:TAsk):Option ((List TCell)×Int):=evF cx n 32 ((s,a,()):El (cx.arg 32))
def heat_Line (n:Nat) (s:TState) (a:TAsk):Option (List UInt8×Int):=evF cx n 34 ((s,a,()):El (cx.arg 34))
def heat_Steps (n:Nat) (l:(List TCell)):Option ((List (Int×Int))×Int):=evF cx n 37 ((l,()):El (cx.arg 37))
def r38_Steps (n:Nat) (l:(List TCell)):Option ((List (Int×Int))×Int):=evF cx n 38 ((l,()):El (cx.arg 38))
def heat_Peak (n:Nat) (l:(List (Int×Int))):Option (Int×Bool):=evF cx n 39 ((l,()):El (cx.arg 39))
def r38_Peak (n:Nat) (l:(List (Int×Int))):Option (Int×Bool):=evF cx n 40 ((l,()):El (cx.arg 40))
def heat_Levels (n:Nat) (l:(List (Int×Int))):Option ((List Int)×Int):=evF cx n 41 ((l,()):El (cx.arg 41))
def r38_Levels (n:Nat) (l:(List (Int×Int))):Option ((List Int)×Int):=evF cx n 42 ((l,()):El (cx.arg 42))
def r38_SameWides (n:Nat) (a:(List (Int×Int))) (b:(List (Int×Int))):Option Bool:=evF cx n 43 ((a,b,()):El (cx.arg 43))
def cell_All (n:Nat) (l:(List TCell)):Option (TCell×Int):=evF cx n 44 ((l,()):El (cx.arg 44))
def wide_Sum (n:Nat) (l:(List (Int×Int))):Option ((Int×Int)×Int):=evF cx n 45 ((l,()):El (cx.arg 45))
def wide_Less (n:Nat) (a:(Int×Int)) (b:(Int×Int)):Option Bool:=evF cx n 46 ((a,b,()):El (cx.arg 46))
def wide_Times (n:Nat) (a:(Int×Int)) (n_:Int):Option ((Int×Int)×Int):=evF cx n 47 ((a,n_,()):El (cx.arg 47))
def stt_New (n:Nat) (c:TConfig):Option (TState×Int):=evF cx n 64 ((c,()):El (cx.arg 64))
def l10_Fit (n:Nat)  : Option TConfig:=evF cx n 67 (():El (cx.arg 67))
def write_All (n:Nat) (s:TState) (l:(List (List UInt8×List UInt8))) (es:(List TEvent)):Option (TState×(Int×Int)):=evF cx n 68 ((s,l,es,()):El (cx.arg 68))
def wide_Of (n:Nat) (n_:Int):Option (Int×Int):=evF cx n 89 ((n_,()):El (cx.arg 89))
def wi_Span (n:Nat) (a:Int) (b:Int) (w:Int):Option (Int×(Int×Int)):=evF cx n 92 ((a,b,w,()):El (cx.arg 92))
def stt_Find (n:Nat) (s:TState) (l:(List (List UInt8×List UInt8))):Option (Int×Int):=evF cx n 93 ((s,l,()):El (cx.arg 93))
def series_Cell (n:Nat) (c:TConfig) (s:TSeries) (k:Int) (i:Int):Option (TCell×Int):=evF cx n 94 ((c,s,k,i,()):El (cx.arg 94))
def event_Between (n:Nat) (p:TEvent) (c:TEvent):Option (TCell×Int):=evF cx n 97 ((p,c,()):El (cx.arg 97))
def wide_Add (n:Nat) (a:(Int×Int)) (b:(Int×Int)):Option ((Int×Int)×Int):=evF cx n 98 ((a,b,()):El (cx.arg 98))
def r08_All (n:Nat) (l:(List TCell)):Option (TCell×Int):=evF cx n 99 ((l,()):El (cx.arg 99))
def r01_Sub (n:Nat) (a:(Int×Int)) (b:(Int×Int)):Option ((Int×Int)×Int):=evF cx n 100 ((a,b,()):El (cx.arg 100))
def r01_Less (n:Nat) (a:(Int×Int)) (b:(Int×Int)):Option Bool:=evF cx n 101 ((a,b,()):El (cx.arg 101))
def heat_level (n:Nat) (x:(Int×Int)) (times:((Int×Int)×((Int×Int)×((Int×Int)×((Int×Int)×((Int×Int)×((Int×Int)×((Int×Int)×((Int×Int)×TFraction))))))))):Option Int:=evF cx n 102 ((x,times,()):El (cx.arg 102))
def r01_Times (n:Nat) (a:(Int×Int)) (n_:Int):Option ((Int×Int)×Int):=evF cx n 103 ((a,n_,()):El (cx.arg 103))
def cell_Merge (n:Nat) (a:TCell) (b:TCell):Option (TCell×Int):=evF cx n 104 ((a,b,()):El (cx.arg 104))
def math_bits_Mul64 (n:Nat) (x:Int) (y:Int):Option (Int×Int):=evF cx n 105 ((x,y,()):El (cx.arg 105))
def wide_sure (n:Nat) (a:(Int×Int)) (over:Int):Option ((Int×Int)×Int):=evF cx n 107 ((a,over,()):El (cx.arg 107))
def r01_Add (n:Nat) (a:(Int×Int)) (b:(Int×Int)):Option ((Int×Int)×Int):=evF cx n 117 ((a,b,()):El (cx.arg 117))
def event_right (n:Nat) (l:(List TEvent)):Option Bool:=evF cx n 161 ((l,()):El (cx.arg 161))
def event_anew (n:Nat) (c:TEvent) (seen:Int):Option TCell:=evF cx n 162 ((c,seen,()):El (cx.arg 162))
def r08_Merge (n:Nat) (a:TCell) (b:TCell):Option (TCell×Int):=evF cx n 163 ((a,b,()):El (cx.arg 163))
def r01_Bytes (n:Nat) (a:(Int×Int)):Option (Int×(Int×(Int×(Int×(Int×(Int×(Int×(Int×(Int×(Int×(Int×(Int×(Int×(Int×(Int×Int))))))))))))))):=evF cx n 164 ((a,()):El (cx.arg 164))
def r01_Of (n:Nat) (l:(Int×(Int×(Int×(Int×(Int×(Int×(Int×(Int×(Int×(Int×(Int×(Int×(Int×(Int×(Int×Int)))))))))))))))):Option (Int×Int):=evF cx n 165 ((l,()):El (cx.arg 165))
def cell_Check (n:Nat) (c:TCell):Option Int:=evF cx n 166 ((c,()):El (cx.arg 166))
def cell_none (n:Nat) (c:TCell):Option Bool:=evF cx n 167 ((c,()):El (cx.arg 167))
def cell_join (n:Nat) (a:TCell) (b:TCell):Option (TCell×Int):=evF cx n 168 ((a,b,()):El (cx.arg 168))
def event_Check (n:Nat) (e:TEvent):Option Int:=evF cx n 223 ((e,()):El (cx.arg 223))
def r08_Check (n:Nat) (c:TCell):Option Int:=evF cx n 224 ((c,()):El (cx.arg 224))
def r07_Between (n:Nat) (p:TEvent) (c:TEvent):Option (TCell×Int):=evF cx n 225 ((p,c,()):El (cx.arg 225))
def r01_Sum (n:Nat) (l:(List (Int×Int))):Option ((Int×Int)×Int):=evF cx n 226 ((l,()):El (cx.arg 226))
def cell_spans (n:Nat) (c:TCell):Option Bool:=evF cx n 227 ((c,()):El (cx.arg 227))
def cell_in (n:Nat) (n_:Int) (most:Int):Option Bool:=evF cx n 228 ((n_,most,()):El (cx.arg 228))
def r07_Check (n:Nat) (e:TEvent):Option Int:=evF cx n 253 ((e,()):El (cx.arg 253))
def event_Follow (n:Nat) (p:TEvent) (c:TEvent):Option Bool:=evF cx n 274 ((p,c,()):El (cx.arg 274))
def r06_Same_l4 (n f:Nat) (x:((List Int)×((List Int)×(Int×(Int×Unit))))):Option (Unit ⊕ Bool):=runLoop cx (evF cx n) 23 4 f x
def heat_Cells_l14 (n f:Nat) (x:(TState×(TReply×(Int×((List TCell)×(Int×(Int×(Int×Unit)))))))):Option (((List TCell)×Unit) ⊕ ((List TCell)×Int)):=runLoop cx (evF cx n) 32 14 f x
def heat_Line_l10 (n f:Nat) (x:(Int×((List Int)×((List Int)×(Int×(Int×Unit)))))):Option ((Int×((List Int)×Unit)) ⊕ (List UInt8×Int)):=runLoop cx (evF cx n) 34 10 f x
def heat_Steps_l7 (n f:Nat) (x:((List TCell)×((List (Int×Int))×((Option TCell)×(Int×(Int×Unit)))))):Option (((List (Int×Int))×Unit) ⊕ ((List (Int×Int))×Int)):=runLoop cx (evF cx n) 37 7 f x
def r38_Steps_l6 (n f:Nat) (x:((List TCell)×((List (Int×Int))×(Int×(Int×Unit))))):Option (((List (Int×Int))×Unit) ⊕ ((List (Int×Int))×Int)):=runLoop cx (evF cx n) 38 6 f x
def heat_Peak_l3 (n f:Nat) (x:((List (Int×Int))×(Int×((List (Int×Int))×(Int×(Int×Unit)))))):Option (((List (Int×Int))×(Int×Unit)) ⊕ (Int×Bool)):=runLoop cx (evF cx n) 39 3 f x
def r38_Peak_l2 (n f:Nat) (x:((List (Int×Int))×((List (Int×Int))×(Int×(Int×Unit))))):Option (Unit ⊕ (Int×Bool)):=runLoop cx (evF cx n) 40 2 f x
def r38_Peak_l6 (n f:Nat) (x:((List (Int×Int))×(Int×((Int×Int)×(Bool×((List (Int×Int))×(Int×(Int×((List (Int×Int))×(Int×(Int×Unit))))))))))):Option (((List (Int×Int))×(Int×(Bool×((List (Int×Int))×(Int×(Int×Unit)))))) ⊕ (Int×Bool)):=runLoop cx (evF cx n) 40 6 f x
def heat_Levels_l6 (n f:Nat) (x:((List (Int×Int))×(Int×(((Int×Int)×((Int×Int)×((Int×Int)×((Int×Int)×((Int×Int)×((Int×Int)×((Int×Int)×((Int×Int)×TFraction))))))))×(Int×Unit))))):Option (((List (Int×Int))×(Int×(((Int×Int)×((Int×Int)×((Int×Int)×((Int×Int)×((Int×Int)×((Int×Int)×((Int×Int)×((Int×Int)×TFraction))))))))×Unit))) ⊕ ((List Int)×Int)):=runLoop cx (evF cx n) 41 6 f x
def heat_Levels_l17 (n f:Nat) (x:(((Int×Int)×((Int×Int)×((Int×Int)×((Int×Int)×((Int×Int)×((Int×Int)×((Int×Int)×((Int×Int)×TFraction))))))))×((List Int)×((List (Int×Int))×(Int×(Int×Unit)))))):Option (((List Int)×Unit) ⊕ ((List Int)×Int)):=runLoop cx (evF cx n) 41 17 f x
def r38_Levels_l10 (n f:Nat) (x:((Int×Int)×((List Int)×((List (Int×Int))×(Int×(Int×Unit)))))):Option (((List Int)×Unit) ⊕ ((List Int)×Int)):=runLoop cx (evF cx n) 42 10 f x
def r38_Levels_l15 (n f:Nat) (x:((Int×Int)×((List Int)×((Int×Int)×(Int×(Int×((List (Int×Int))×(Int×(Int×Unit))))))))):Option (((Int×Int)×((List Int)×(Int×((List (Int×Int))×(Int×(Int×Unit)))))) ⊕ ((List Int)×Int)):=runLoop cx (evF cx n) 42 15 f x
def r38_SameWides_l4 (n f:Nat) (x:((List (Int×Int))×((List (Int×Int))×(Int×(Int×Unit))))):Option (Unit ⊕ Bool):=runLoop cx (evF cx n) 43 4 f x
def cell_All_l3 (n f:Nat) (x:(TCell×(TCell×((List TCell)×(Int×(Int×Unit)))))):Option ((TCell×(TCell×Unit)) ⊕ (TCell×Int)):=runLoop cx (evF cx n) 44 3 f x
def wide_Sum_l3 (n f:Nat) (x:((Int×Int)×((Int×Int)×((List (Int×Int))×(Int×(Int×Unit)))))):Option (((Int×Int)×((Int×Int)×Unit)) ⊕ ((Int×Int)×Int)):=runLoop cx (evF cx n) 45 3 f x
def r08_All_l3 (n f:Nat) (x:(TCell×(TCell×((List TCell)×(Int×(Int×Unit)))))):Option ((TCell×(TCell×Unit)) ⊕ (TCell×Int)):=runLoop cx (evF cx n) 99 3 f x
def r01_Sub_l6 (n f:Nat) (x:((Int×Int)×((List Int)×((List Int)×(Int×(Int×Unit)))))):Option (((Int×Int)×((List Int)×Unit)) ⊕ ((Int×Int)×Int)):=runLoop cx (evF cx n) 100 6 f x
def heat_level_l3 (n f:Nat) (x:(((Int×Int)×((Int×Int)×((Int×Int)×((Int×Int)×((Int×Int)×((Int×Int)×((Int×Int)×((Int×Int)×TFraction))))))))×((Int×Int)×(Int×Unit)))):Option ((Int×Unit) ⊕ Int):=runLoop cx (evF cx n) 102 3 f x
def r01_Times_l4 (n f:Nat) (x:(Int×((Int×Int)×((Int×Int)×((Int×Int)×(Bool×Unit)))))):Option (((Int×Int)×((Int×Int)×Unit)) ⊕ ((Int×Int)×Int)):=runLoop cx (evF cx n) 103 4 f x
def event_right_l2 (n f:Nat) (x:((List TEvent)×(Int×(Int×Unit)))):Option (Unit ⊕ Bool):=runLoop cx (evF cx n) 161 2 f x
def r01_Sum_l3 (n f:Nat) (x:((Int×Int)×((Int×Int)×((List (Int×Int))×(Int×(Int×Unit)))))):Option (((Int×Int)×((Int×Int)×Unit)) ⊕ ((Int×Int)×Int)):=runLoop cx (evF cx n) 226 3 f x
theorem obs {α β:Type} (x:α) (f:α→Option β):obind (some x) f=f x:=obind_some x f
theorem tfd {α:Type} (p:Prop) [Decidable p] (x y:α):tif (decide p) x y=if p then x else y:=tif_dec p x y
theorem tff {α:Type} (x y:α):tif false x y=y:=tif_false x y
theorem tft {α:Type} (x y:α):tif true x y=x:=tif_true x y
theorem tfn {α:Type} (b:Bool) (x y:α):tif (!b) x y=tif b y x:=tif_not b x y
end
end Go.Proofs.YtgkpkajaepphjaaGreatDoor
