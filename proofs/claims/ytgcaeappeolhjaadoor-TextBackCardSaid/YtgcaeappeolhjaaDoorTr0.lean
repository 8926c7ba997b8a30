/- Trees, printed by program. -/
import Derived.Test.YtgcaeappeolhjaaDoorCx
import Derived.KernelRfl
set_option linter.unusedVariables false
namespace Go.Proofs.YtgcaeappeolhjaaDoor
open Go.Flat
noncomputable section
abbrev TEvent:=(Int×(Int×(Int×Bool)))
abbrev TRow:=((List (List UInt8×List UInt8))×TEvent)
def bs_2753755:List UInt8:=[0,1,2,2,3,3,3,3,4,4,4,4,4,4,4,4,5,5,5,5,5,5,5,5,5,5,5,5,5,5,5,5,6,6,6,6,6,6,6,6,6,6,6,6,6,6,6,6,6,6,6,6,6,6,6,6,6,6,6,6,6,6,6,6,7,7,7,7,7,7,7,7,7,7,7,7,7,7,7,7,7,7,7,7,7,7,7,7,7,7,7,7,7,7,7,7,7,7,7,7,7,7,7,7,7,7,7,7,7,7,7,7,7,7,7,7,7,7,7,7,7,7,7,7,7,7,7,7,8,8,8,8,8,8,8,8,8,8,8,8,8,8,8,8,8,8,8,8,8,8,8,8,8,8,8,8,8,8,8,8,8,8,8,8,8,8,8,8,8,8,8,8,8,8,8,8,8,8,8,8,8,8,8,8,8,8,8,8,8,8,8,8,8,8,8,8,8,8,8,8,8,8,8,8,8,8,8,8,8,8,8,8,8,8,8,8,8,8,8,8,8,8,8,8,8,8,8,8,8,8,8,8,8,8,8,8,8,8,8,8,8,8,8,8,8,8,8,8,8,8,8,8,8,8,8,8]
def bs_92989263:List UInt8:=[48,48,48,49,48,50,48,51,48,52,48,53,48,54,48,55,48,56,48,57,49,48,49,49,49,50,49,51,49,52,49,53,49,54,49,55,49,56,49,57,50,48,50,49,50,50,50,51,50,52,50,53,50,54,50,55,50,56,50,57,51,48,51,49,51,50,51,51,51,52,51,53,51,54,51,55,51,56,51,57,52,48,52,49,52,50,52,51,52,52,52,53,52,54,52,55,52,56,52,57,53,48,53,49,53,50,53,51,53,52,53,53,53,54,53,55,53,56,53,57,54,48,54,49,54,50,54,51,54,52,54,53,54,54,54,55,54,56,54,57,55,48,55,49,55,50,55,51,55,52,55,53,55,54,55,55,55,56,55,57,56,48,56,49,56,50,56,51,56,52,56,53,56,54,56,55,56,56,56,57,57,48,57,49,57,50,57,51,57,52,57,53,57,54,57,55,57,56,57,57]
def l34_TextBack (n:Nat) (l:(List TRow)) (line:List UInt8) (between:List UInt8):Option Bool:=evF cx n 4 ((l,line,between,()):El (cx.arg 4))
def l05_Small (n:Nat) (l:(List (List UInt8×List UInt8))):Option Int:=evF cx n 6 ((l,()):El (cx.arg 6))
def l34_lives (n:Nat)  : Option Bool:=evF cx n 12 (():El (cx.arg 12))
def l34_Small (n:Nat) (l:(List TRow)):Option Int:=evF cx n 13 ((l,()):El (cx.arg 13))
def text_Parse (n:Nat) (line:List UInt8):Option (TRow×Int):=evF cx n 14 ((line,()):El (cx.arg 14))
def text_Line (n:Nat) (r:TRow):Option (List UInt8×Int):=evF cx n 15 ((r,()):El (cx.arg 15))
def r34_Same (n:Nat) (a:TRow) (b:TRow):Option Bool:=evF cx n 16 ((a,b,()):El (cx.arg 16))
def text_Read (n:Nat) (s:List UInt8):Option ((List TRow)×Int):=evF cx n 17 ((s,()):El (cx.arg 17))
def r34_SameList (n:Nat) (a:(List TRow)) (b:(List TRow)):Option Bool:=evF cx n 18 ((a,b,()):El (cx.arg 18))
def r05_Same (n:Nat) (a:(List (List UInt8×List UInt8))) (b:(List (List UInt8×List UInt8))):Option Bool:=evF cx n 22 ((a,b,()):El (cx.arg 22))
def strings_Cut (n:Nat) (s:List UInt8) (sep:List UInt8):Option (List UInt8×(List UInt8×Bool)):=evF cx n 23 ((s,sep,()):El (cx.arg 23))
def strings_Builder_WriteString (n:Nat) (b:List UInt8) (s:List UInt8):Option (Int×(Bool×List UInt8)):=evF cx n 24 ((b,s,()):El (cx.arg 24))
def strings_Builder_WriteByte (n:Nat) (b:List UInt8) (c:Int):Option (Bool×List UInt8):=evF cx n 25 ((b,c,()):El (cx.arg 25))
def strings_Builder_String (n:Nat) (b:List UInt8):Option (List UInt8×List UInt8):=evF cx n 26 ((b,()):El (cx.arg 26))
def text_All (n:Nat) (rows:(List TRow)):Option (List UInt8×Int):=evF cx n 27 ((rows,()):El (cx.arg 27))
def text_Same (n:Nat) (a:TRow) (b:TRow):Option Bool:=evF cx n 28 ((a,b,()):El (cx.arg 28))
def strings_LastIndexByte (n:Nat) (s:List UInt8) (c:Int):Option Int:=evF cx n 29 ((s,c,()):El (cx.arg 29))
def label_Parse (n:Nat) (s:List UInt8):Option ((List (List UInt8×List UInt8))×Int):=evF cx n 30 ((s,()):El (cx.arg 30))
def text_tail (n:Nat) (s:List UInt8):Option (TEvent×Bool):=evF cx n 31 ((s,()):El (cx.arg 31))
def label_Text (n:Nat) (l:(List (List UInt8×List UInt8))):Option (List UInt8×Int):=evF cx n 32 ((l,()):El (cx.arg 32))
def event_Check (n:Nat) (e:TEvent):Option Int:=evF cx n 33 ((e,()):El (cx.arg 33))
def strconv_AppendUint (n:Nat) (dst:(List Int)) (i:Int) (base:Int):Option (List Int):=evF cx n 34 ((dst,i,base,()):El (cx.arg 34))
def strconv_AppendInt (n:Nat) (dst:(List Int)) (i:Int) (base:Int):Option (List Int):=evF cx n 35 ((dst,i,base,()):El (cx.arg 35))
def text_lines (n:Nat) (s:List UInt8):Option (List (List UInt8×Unit)):=evF cx n 36 ((s,()):El (cx.arg 36))
def stringslite_Cut (n:Nat) (s:List UInt8) (sep:List UInt8):Option (List UInt8×(List UInt8×Bool)):=evF cx n 48 ((s,sep,()):El (cx.arg 48))
def bytealg_LastIndexByteString (n:Nat) (s:List UInt8) (c:Int):Option Int:=evF cx n 50 ((s,c,()):El (cx.arg 50))
def strings_CutPrefix (n:Nat) (s:List UInt8) (prefix_:List UInt8):Option (List UInt8×Bool):=evF cx n 51 ((s,prefix_,()):El (cx.arg 51))
def label_unquote (n:Nat) (s:List UInt8):Option (List UInt8×(List UInt8×Bool)):=evF cx n 52 ((s,()):El (cx.arg 52))
def label_Check (n:Nat) (l:(List (List UInt8×List UInt8))):Option Int:=evF cx n 53 ((l,()):El (cx.arg 53))
def strings_Split (n:Nat) (s:List UInt8) (sep:List UInt8):Option (List (List UInt8)):=evF cx n 54 ((s,sep,()):El (cx.arg 54))
def label_quote (n:Nat) (b:List UInt8) (s:List UInt8):Option (List UInt8):=evF cx n 57 ((b,s,()):El (cx.arg 57))
def strconv_AppendUint_ (n:Nat) (dst:(List Int)) (i:Int) (base:Int):Option (List Int):=evF cx n 58 ((dst,i,base,()):El (cx.arg 58))
def strconv_AppendInt_ (n:Nat) (dst:(List Int)) (i:Int) (base:Int):Option (List Int):=evF cx n 59 ((dst,i,base,()):El (cx.arg 59))
def strings_HasPrefix (n:Nat) (s:List UInt8) (prefix_:List UInt8):Option Bool:=evF cx n 61 ((s,prefix_,()):El (cx.arg 61))
def strconv_ParseUint (n:Nat) (s:List UInt8) (base:Int) (bitSize:Int):Option (Int×Bool):=evF cx n 63 ((s,base,bitSize,()):El (cx.arg 63))
def stringslite_Index (n:Nat) (s:List UInt8) (substr:List UInt8):Option Int:=evF cx n 64 ((s,substr,()):El (cx.arg 64))
def stringslite_CutPrefix (n:Nat) (s:List UInt8) (prefix_:List UInt8):Option (List UInt8×Bool):=evF cx n 66 ((s,prefix_,()):El (cx.arg 66))
def label_name (n:Nat) (s:List UInt8):Option Bool:=evF cx n 67 ((s,()):El (cx.arg 67))
def strings_genSplit (n:Nat) (s:List UInt8) (sep:List UInt8) (sepSave:Int) (n_:Int):Option (List (List UInt8)):=evF cx n 68 ((s,sep,sepSave,n_,()):El (cx.arg 68))
def strconv_ParseInt (n:Nat) (s:List UInt8) (base:Int) (bitSize:Int):Option (Int×Bool):=evF cx n 69 ((s,base,bitSize,()):El (cx.arg 69))
def strconv_small (n:Nat) (i:Int):Option (List UInt8):=evF cx n 70 ((i,()):El (cx.arg 70))
def strconv_numDigits (n:Nat) (d:Int):Option Int:=evF cx n 71 ((d,()):El (cx.arg 71))
def strconv_formatBase10 (n:Nat) (a:(List Int×(Nat×Nat))) (u:Int):Option (List Int×(Nat×Nat)):=evF cx n 72 ((a,u,()):El (cx.arg 72))
def stringslite_HasPrefix (n:Nat) (s:List UInt8) (prefix_:List UInt8):Option Bool:=evF cx n 74 ((s,prefix_,()):El (cx.arg 74))
def label_digit (n:Nat) (c:Int):Option Bool:=evF cx n 81 ((c,()):El (cx.arg 81))
def sl_ContainsFunc_byte (n:Nat) (s:(List Int)) (f_:((Int×Unit)→Option Bool)):Option Bool:=evF cx n 82 ((s,f_,()):El (cx.arg 82))
def label_name_1 (n:Nat) (c:Int):Option Bool:=evF cx n 83 ((c,()):El (cx.arg 83))
def label_sign (n:Nat) (c:Int):Option Bool:=evF cx n 84 ((c,()):El (cx.arg 84))
def strings_explode (n:Nat) (s:List UInt8) (n_:Int):Option (List (List UInt8)):=evF cx n 85 ((s,n_,()):El (cx.arg 85))
def strings_Count (n:Nat) (s:List UInt8) (substr:List UInt8):Option Int:=evF cx n 86 ((s,substr,()):El (cx.arg 86))
def strings_Index (n:Nat) (s:List UInt8) (substr:List UInt8):Option Int:=evF cx n 87 ((s,substr,()):El (cx.arg 87))
def strconv_log10Pow2 (n:Nat) (x:Int):Option Int:=evF cx n 89 ((x,()):El (cx.arg 89))
def math_bits_Len64 (n:Nat) (x:Int):Option Int:=evF cx n 90 ((x,()):El (cx.arg 90))
def strconv_bool2_int (n:Nat) (b:Bool):Option Int:=evF cx n 91 ((b,()):El (cx.arg 91))
def sl_IndexFunc_byte (n:Nat) (s:(List Int)) (f_:((Int×Unit)→Option Bool)):Option Int:=evF cx n 102 ((s,f_,()):El (cx.arg 102))
def l34_TextBack_l12 (n f:Nat) (x:((List TRow)×(List UInt8×(List UInt8×(Int×(Int×Unit)))))):Option (((List TRow)×(List UInt8×(List UInt8×(Int×Unit)))) ⊕ Bool):=runLoop cx (evF cx n) 4 12 f x
def l34_TextBack_l23 (n f:Nat) (x:((List TRow)×(List UInt8×(List UInt8×(Int×(Int×((List TRow)×(Int×(Int×Unit))))))))):Option (((List TRow)×(List UInt8×(Int×Unit))) ⊕ Bool):=runLoop cx (evF cx n) 4 23 f x
def l05_Small_l2 (n f:Nat) (x:((List (List UInt8×List UInt8))×(Int×(Int×Unit)))):Option (Unit ⊕ Int):=runLoop cx (evF cx n) 6 2 f x
def l34_Small_l2 (n f:Nat) (x:((List TRow)×(Int×(Int×Unit)))):Option (Unit ⊕ Int):=runLoop cx (evF cx n) 13 2 f x
def text_Read_s5 (n:Nat) (l:List (List UInt8×Unit)) (x:((List TRow)×(Int×Unit))):Option ((List TRow)×(Int×Unit)):=runSeq cx (evF cx n) 17 5 (.pair .str .unit) l x
def r34_SameList_l4 (n f:Nat) (x:((List TRow)×((List TRow)×(Int×(Int×Unit))))):Option (Unit ⊕ Bool):=runLoop cx (evF cx n) 18 4 f x
def r05_Same_l4 (n f:Nat) (x:((List (List UInt8×List UInt8))×((List (List UInt8×List UInt8))×(Int×(Int×Unit))))):Option (Unit ⊕ Bool):=runLoop cx (evF cx n) 22 4 f x
def label_Parse_l3 (n f:Nat) (x:(List UInt8×(Bool×((List (List UInt8×List UInt8))×Unit)))):Option ((List UInt8×(Bool×((List (List UInt8×List UInt8))×Unit))) ⊕ ((List (List UInt8×List UInt8))×Int)):=runLoop cx (evF cx n) 30 3 f x
def label_Text_l7 (n f:Nat) (x:(List UInt8×(Int×((List (List UInt8×List UInt8))×(Int×(Int×Unit)))))):Option ((List UInt8×Unit) ⊕ (List UInt8×Int)):=runLoop cx (evF cx n) 32 7 f x
def bytealg_LastIndexByteString_l2 (n f:Nat) (x:(List UInt8×(Int×(Int×Unit)))):Option (Unit ⊕ Int):=runLoop cx (evF cx n) 50 2 f x
def label_unquote_l3 (n f:Nat) (x:(List UInt8×((List Int)×(Int×Unit)))):Option (Unit ⊕ (List UInt8×(List UInt8×Bool))):=runLoop cx (evF cx n) 52 3 f x
def label_Check_l5 (n f:Nat) (x:((List (List UInt8×List UInt8))×(Int×((List (List UInt8×List UInt8))×(Int×(Int×Unit)))))):Option (Unit ⊕ Int):=runLoop cx (evF cx n) 53 5 f x
def label_quote_l2 (n f:Nat) (x:(List UInt8×((List Int)×(Int×(Int×Unit))))):Option ((List UInt8×Unit) ⊕ List UInt8):=runLoop cx (evF cx n) 57 2 f x
def strings_genSplit_l11 (n f:Nat) (x:(List UInt8×(List UInt8×(Int×(Int×((List (List UInt8))×(Int×Unit))))))):Option ((List UInt8×((List (List UInt8))×(Int×Unit))) ⊕ (List (List UInt8))):=runLoop cx (evF cx n) 68 11 f x
def strconv_formatBase10_l1 (n f:Nat) (x:((List Int×(Nat×Nat))×(Int×(Int×Unit)))):Option (((List Int×(Nat×Nat))×(Int×(Int×Unit))) ⊕ (List Int×(Nat×Nat))):=runLoop cx (evF cx n) 72 1 f x
def sl_IndexFunc_byte_l2 (n f:Nat) (x:((List Int)×(((Int×Unit)→Option Bool)×(Int×(Int×Unit))))):Option (Unit ⊕ Int):=runLoop cx (evF cx n) 102 2 f x
theorem obs {α β:Type} (x:α) (f:α→Option β):obind (some x) f=f x:=obind_some x f
theorem tfd {α:Type} (p:Prop) [Decidable p] (x y:α):tif (decide p) x y=if p then x else y:=tif_dec p x y
theorem tff {α:Type} (x y:α):tif false x y=y:=tif_false x y
theorem tft {α:Type} (x y:α):tif true x y=x:=tif_true x y
theorem tfn {α:Type} (b:Bool) (x y:α):tif (!b) x y=tif b y x:=by cases b <;> rfl
end
end Go.Proofs.YtgcaeappeolhjaaDoor
