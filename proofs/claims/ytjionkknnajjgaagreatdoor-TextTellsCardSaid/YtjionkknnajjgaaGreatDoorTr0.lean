/- Trees, printed by program. -/
import Derived.Test.YtjionkknnajjgaaGreatDoorCx
import Derived.KernelRfl
set_option linter.unusedVariables false
namespace Go.Proofs.YtjionkknnajjgaaGreatDoor
open Go.Flat
noncomputable section
abbrev TEvent:=(Int×(Int×(Int×Bool)))
abbrev TRow:=((List (List UInt8×List UInt8))×TEvent)
def bs_2753755:List UInt8:=[0,1,2,2,3,3,3,3,4,4,4,4,4,4,4,4,5,5,5,5,5,5,5,5,5,5,5,5,5,5,5,5,6,6,6,6,6,6,6,6,6,6,6,6,6,6,6,6,6,6,6,6,6,6,6,6,6,6,6,6,6,6,6,6,7,7,7,7,7,7,7,7,7,7,7,7,7,7,7,7,7,7,7,7,7,7,7,7,7,7,7,7,7,7,7,7,7,7,7,7,7,7,7,7,7,7,7,7,7,7,7,7,7,7,7,7,7,7,7,7,7,7,7,7,7,7,7,7,8,8,8,8,8,8,8,8,8,8,8,8,8,8,8,8,8,8,8,8,8,8,8,8,8,8,8,8,8,8,8,8,8,8,8,8,8,8,8,8,8,8,8,8,8,8,8,8,8,8,8,8,8,8,8,8,8,8,8,8,8,8,8,8,8,8,8,8,8,8,8,8,8,8,8,8,8,8,8,8,8,8,8,8,8,8,8,8,8,8,8,8,8,8,8,8,8,8,8,8,8,8,8,8,8,8,8,8,8,8,8,8,8,8,8,8,8,8,8,8,8,8,8,8,8,8,8,8]
def bs_92989263:List UInt8:=[48,48,48,49,48,50,48,51,48,52,48,53,48,54,48,55,48,56,48,57,49,48,49,49,49,50,49,51,49,52,49,53,49,54,49,55,49,56,49,57,50,48,50,49,50,50,50,51,50,52,50,53,50,54,50,55,50,56,50,57,51,48,51,49,51,50,51,51,51,52,51,53,51,54,51,55,51,56,51,57,52,48,52,49,52,50,52,51,52,52,52,53,52,54,52,55,52,56,52,57,53,48,53,49,53,50,53,51,53,52,53,53,53,54,53,55,53,56,53,57,54,48,54,49,54,50,54,51,54,52,54,53,54,54,54,55,54,56,54,57,55,48,55,49,55,50,55,51,55,52,55,53,55,54,55,55,55,56,55,57,56,48,56,49,56,50,56,51,56,52,56,53,56,54,56,55,56,56,56,57,57,48,57,49,57,50,57,51,57,52,57,53,57,54,57,55,57,56,57,57]
def l34_TextTells (n:Nat) (l:(List TRow)) (line:List UInt8) (all:List UInt8):Option Bool:=evF cx n 3 ((l,line,all,()):El (cx.arg 3))
def l34_Small (n:Nat) (l:(List TRow)):Option Int:=evF cx n 5 ((l,()):El (cx.arg 5))
def l34_lives (n:Nat)  : Option Bool:=evF cx n 6 (():El (cx.arg 6))
def text_All (n:Nat) (rows:(List TRow)):Option (List UInt8×Int):=evF cx n 7 ((rows,()):El (cx.arg 7))
def r34_All (n:Nat) (rows:(List TRow)):Option (List UInt8×Int):=evF cx n 8 ((rows,()):El (cx.arg 8))
def text_Parse (n:Nat) (line:List UInt8):Option (TRow×Int):=evF cx n 9 ((line,()):El (cx.arg 9))
def r34_Parse (n:Nat) (line:List UInt8):Option (TRow×Int):=evF cx n 10 ((line,()):El (cx.arg 10))
def text_Read (n:Nat) (s:List UInt8):Option ((List TRow)×Int):=evF cx n 11 ((s,()):El (cx.arg 11))
def r34_Read (n:Nat) (text:List UInt8):Option ((List TRow)×Int):=evF cx n 12 ((text,()):El (cx.arg 12))
def r34_Same (n:Nat) (a:TRow) (b:TRow):Option Bool:=evF cx n 13 ((a,b,()):El (cx.arg 13))
def r34_SameList (n:Nat) (a:(List TRow)) (b:(List TRow)):Option Bool:=evF cx n 14 ((a,b,()):El (cx.arg 14))
def text_Line (n:Nat) (r:TRow):Option (List UInt8×Int):=evF cx n 15 ((r,()):El (cx.arg 15))
def r34_Line (n:Nat) (r:TRow):Option (List UInt8×Int):=evF cx n 16 ((r,()):El (cx.arg 16))
def text_Same (n:Nat) (a:TRow) (b:TRow):Option Bool:=evF cx n 17 ((a,b,()):El (cx.arg 17))
def l05_Small (n:Nat) (l:(List (List UInt8×List UInt8))):Option Int:=evF cx n 20 ((l,()):El (cx.arg 20))
def strings_Builder_WriteString (n:Nat) (b:List UInt8) (s:List UInt8):Option (Int×(Bool×List UInt8)):=evF cx n 23 ((b,s,()):El (cx.arg 23))
def strings_Builder_WriteByte (n:Nat) (b:List UInt8) (c:Int):Option (Bool×List UInt8):=evF cx n 24 ((b,c,()):El (cx.arg 24))
def strings_Builder_String (n:Nat) (b:List UInt8):Option (List UInt8×List UInt8):=evF cx n 25 ((b,()):El (cx.arg 25))
def strings_LastIndexByte (n:Nat) (s:List UInt8) (c:Int):Option Int:=evF cx n 26 ((s,c,()):El (cx.arg 26))
def label_Parse (n:Nat) (s:List UInt8):Option ((List (List UInt8×List UInt8))×Int):=evF cx n 27 ((s,()):El (cx.arg 27))
def text_tail (n:Nat) (s:List UInt8):Option (TEvent×Bool):=evF cx n 28 ((s,()):El (cx.arg 28))
def r05_Parse (n:Nat) (s:List UInt8):Option ((List (List UInt8×List UInt8))×Int):=evF cx n 29 ((s,()):El (cx.arg 29))
def r34_words (n:Nat) (s:List UInt8):Option (List (List UInt8)):=evF cx n 30 ((s,()):El (cx.arg 30))
def r34_value (n:Nat) (s:List UInt8):Option Int:=evF cx n 31 ((s,()):El (cx.arg 31))
def text_lines (n:Nat) (s:List UInt8):Option (List (List UInt8×Unit)):=evF cx n 32 ((s,()):El (cx.arg 32))
def r05_Same (n:Nat) (a:(List (List UInt8×List UInt8))) (b:(List (List UInt8×List UInt8))):Option Bool:=evF cx n 33 ((a,b,()):El (cx.arg 33))
def label_Text (n:Nat) (l:(List (List UInt8×List UInt8))):Option (List UInt8×Int):=evF cx n 34 ((l,()):El (cx.arg 34))
def event_Check (n:Nat) (e:TEvent):Option Int:=evF cx n 35 ((e,()):El (cx.arg 35))
def strconv_AppendUint (n:Nat) (dst:(List Int)) (i:Int) (base:Int):Option (List Int):=evF cx n 36 ((dst,i,base,()):El (cx.arg 36))
def strconv_AppendInt (n:Nat) (dst:(List Int)) (i:Int) (base:Int):Option (List Int):=evF cx n 37 ((dst,i,base,()):El (cx.arg 37))
def r05_Text (n:Nat) (l:(List (List UInt8×List UInt8))):Option (List UInt8×Int):=evF cx n 38 ((l,()):El (cx.arg 38))
def r07_Check (n:Nat) (e:TEvent):Option Int:=evF cx n 39 ((e,()):El (cx.arg 39))
def r34_num (n:Nat) (n_:Int):Option (List UInt8):=evF cx n 40 ((n_,()):El (cx.arg 40))
def label_Same (n:Nat) (a:(List (List UInt8×List UInt8))) (b:(List (List UInt8×List UInt8))):Option Bool:=evF cx n 41 ((a,b,()):El (cx.arg 41))
def bytealg_LastIndexByteString (n:Nat) (s:List UInt8) (c:Int):Option Int:=evF cx n 53 ((s,c,()):El (cx.arg 53))
def strings_CutPrefix (n:Nat) (s:List UInt8) (prefix_:List UInt8):Option (List UInt8×Bool):=evF cx n 54 ((s,prefix_,()):El (cx.arg 54))
def strings_Cut (n:Nat) (s:List UInt8) (sep:List UInt8):Option (List UInt8×(List UInt8×Bool)):=evF cx n 55 ((s,sep,()):El (cx.arg 55))
def label_unquote (n:Nat) (s:List UInt8):Option (List UInt8×(List UInt8×Bool)):=evF cx n 56 ((s,()):El (cx.arg 56))
def label_Check (n:Nat) (l:(List (List UInt8×List UInt8))):Option Int:=evF cx n 57 ((l,()):El (cx.arg 57))
def strings_Split (n:Nat) (s:List UInt8) (sep:List UInt8):Option (List (List UInt8)):=evF cx n 58 ((s,sep,()):El (cx.arg 58))
def r05_value (n:Nat) (s:List UInt8):Option (List UInt8×Int):=evF cx n 61 ((s,()):El (cx.arg 61))
def strings_HasPrefix (n:Nat) (s:List UInt8) (prefix_:List UInt8):Option Bool:=evF cx n 63 ((s,prefix_,()):El (cx.arg 63))
def label_quote (n:Nat) (b:List UInt8) (s:List UInt8):Option (List UInt8):=evF cx n 64 ((b,s,()):El (cx.arg 64))
def strconv_AppendUint_ (n:Nat) (dst:(List Int)) (i:Int) (base:Int):Option (List Int):=evF cx n 65 ((dst,i,base,()):El (cx.arg 65))
def strconv_AppendInt_ (n:Nat) (dst:(List Int)) (i:Int) (base:Int):Option (List Int):=evF cx n 66 ((dst,i,base,()):El (cx.arg 66))
def r05_Check (n:Nat) (l:(List (List UInt8×List UInt8))):Option Int:=evF cx n 67 ((l,()):El (cx.arg 67))
def r05_quote (n:Nat) (s:List UInt8):Option (List UInt8):=evF cx n 68 ((s,()):El (cx.arg 68))
def r01_Text (n:Nat) (a:(Int×Int)):Option (List UInt8):=evF cx n 69 ((a,()):El (cx.arg 69))
def sl_Equal_Label (n:Nat) (s1:(List (List UInt8×List UInt8))) (s2:(List (List UInt8×List UInt8))):Option Bool:=evF cx n 70 ((s1,s2,()):El (cx.arg 70))
def stringslite_CutPrefix (n:Nat) (s:List UInt8) (prefix_:List UInt8):Option (List UInt8×Bool):=evF cx n 86 ((s,prefix_,()):El (cx.arg 86))
def stringslite_Cut (n:Nat) (s:List UInt8) (sep:List UInt8):Option (List UInt8×(List UInt8×Bool)):=evF cx n 87 ((s,sep,()):El (cx.arg 87))
def label_name (n:Nat) (s:List UInt8):Option Bool:=evF cx n 88 ((s,()):El (cx.arg 88))
def strings_genSplit (n:Nat) (s:List UInt8) (sep:List UInt8) (sepSave:Int) (n_:Int):Option (List (List UInt8)):=evF cx n 89 ((s,sep,sepSave,n_,()):El (cx.arg 89))
def strconv_ParseUint (n:Nat) (s:List UInt8) (base:Int) (bitSize:Int):Option (Int×Bool):=evF cx n 90 ((s,base,bitSize,()):El (cx.arg 90))
def strconv_ParseInt (n:Nat) (s:List UInt8) (base:Int) (bitSize:Int):Option (Int×Bool):=evF cx n 91 ((s,base,bitSize,()):El (cx.arg 91))
def stringslite_HasPrefix (n:Nat) (s:List UInt8) (prefix_:List UInt8):Option Bool:=evF cx n 92 ((s,prefix_,()):El (cx.arg 92))
def strconv_small (n:Nat) (i:Int):Option (List UInt8):=evF cx n 93 ((i,()):El (cx.arg 93))
def strconv_numDigits (n:Nat) (d:Int):Option Int:=evF cx n 94 ((d,()):El (cx.arg 94))
def strconv_formatBase10 (n:Nat) (a:(List Int×(Nat×Nat))) (u:Int):Option (List Int×(Nat×Nat)):=evF cx n 95 ((a,u,()):El (cx.arg 95))
def r05_name (n:Nat) (s:List UInt8):Option Bool:=evF cx n 97 ((s,()):El (cx.arg 97))
def r01_Div (n:Nat) (a:(Int×Int)) (n_:Int):Option ((Int×Int)×(Int×Int)):=evF cx n 98 ((a,n_,()):El (cx.arg 98))
def stringslite_Index (n:Nat) (s:List UInt8) (substr:List UInt8):Option Int:=evF cx n 123 ((s,substr,()):El (cx.arg 123))
def label_digit (n:Nat) (c:Int):Option Bool:=evF cx n 124 ((c,()):El (cx.arg 124))
def sl_ContainsFunc_byte (n:Nat) (s:(List Int)) (f_:((Int×Unit)→Option Bool)):Option Bool:=evF cx n 125 ((s,f_,()):El (cx.arg 125))
def label_name_1 (n:Nat) (c:Int):Option Bool:=evF cx n 126 ((c,()):El (cx.arg 126))
def label_sign (n:Nat) (c:Int):Option Bool:=evF cx n 127 ((c,()):El (cx.arg 127))
def strings_explode (n:Nat) (s:List UInt8) (n_:Int):Option (List (List UInt8)):=evF cx n 128 ((s,n_,()):El (cx.arg 128))
def strings_Count (n:Nat) (s:List UInt8) (substr:List UInt8):Option Int:=evF cx n 129 ((s,substr,()):El (cx.arg 129))
def strings_Index (n:Nat) (s:List UInt8) (substr:List UInt8):Option Int:=evF cx n 130 ((s,substr,()):El (cx.arg 130))
def strconv_log10Pow2 (n:Nat) (x:Int):Option Int:=evF cx n 134 ((x,()):El (cx.arg 134))
def math_bits_Len64 (n:Nat) (x:Int):Option Int:=evF cx n 135 ((x,()):El (cx.arg 135))
def strconv_bool2_int (n:Nat) (b:Bool):Option Int:=evF cx n 136 ((b,()):El (cx.arg 136))
def r01_Bytes (n:Nat) (a:(Int×Int)):Option (Int×(Int×(Int×(Int×(Int×(Int×(Int×(Int×(Int×(Int×(Int×(Int×(Int×(Int×(Int×Int))))))))))))))):=evF cx n 139 ((a,()):El (cx.arg 139))
def r01_Add (n:Nat) (a:(Int×Int)) (b:(Int×Int)):Option ((Int×Int)×Int):=evF cx n 140 ((a,b,()):El (cx.arg 140))
def r01_Less (n:Nat) (a:(Int×Int)) (b:(Int×Int)):Option Bool:=evF cx n 141 ((a,b,()):El (cx.arg 141))
def r01_Sub (n:Nat) (a:(Int×Int)) (b:(Int×Int)):Option ((Int×Int)×Int):=evF cx n 142 ((a,b,()):El (cx.arg 142))
def r01_Of (n:Nat) (l:(Int×(Int×(Int×(Int×(Int×(Int×(Int×(Int×(Int×(Int×(Int×(Int×(Int×(Int×(Int×Int)))))))))))))))):Option (Int×Int):=evF cx n 143 ((l,()):El (cx.arg 143))
def sl_IndexFunc_byte (n:Nat) (s:(List Int)) (f_:((Int×Unit)→Option Bool)):Option Int:=evF cx n 180 ((s,f_,()):El (cx.arg 180))
def l34_TextTells_l12 (n f:Nat) (x:((List TRow)×((List TRow)×(Int×(Int×Unit))))):Option (Unit ⊕ Bool):=runLoop cx (evF cx n) 3 12 f x
def l34_Small_l2 (n f:Nat) (x:((List TRow)×(Int×(Int×Unit)))):Option (Unit ⊕ Int):=runLoop cx (evF cx n) 5 2 f x
def text_All_l3 (n f:Nat) (x:(List UInt8×((List TRow)×(Int×(Int×Unit))))):Option ((List UInt8×Unit) ⊕ (List UInt8×Int)):=runLoop cx (evF cx n) 7 3 f x
def r34_All_l3 (n f:Nat) (x:(List UInt8×((List TRow)×(Int×(Int×Unit))))):Option ((List UInt8×Unit) ⊕ (List UInt8×Int)):=runLoop cx (evF cx n) 8 3 f x
def r34_Parse_l2 (n f:Nat) (x:(List UInt8×(TRow×(Int×Unit)))):Option ((List UInt8×(TRow×(Int×Unit))) ⊕ (TRow×Int)):=runLoop cx (evF cx n) 10 2 f x
def text_Read_s5 (n:Nat) (l:List (List UInt8×Unit)) (x:((List TRow)×(Int×Unit))):Option ((List TRow)×(Int×Unit)):=runSeq cx (evF cx n) 11 5 (.pair .str .unit) l x
def r34_Read_l4 (n f:Nat) (x:(List UInt8×((List TRow)×(Int×(Int×(Int×Unit)))))):Option (((List TRow)×(Int×Unit)) ⊕ ((List TRow)×Int)):=runLoop cx (evF cx n) 12 4 f x
def r34_SameList_l4 (n f:Nat) (x:((List TRow)×((List TRow)×(Int×(Int×Unit))))):Option (Unit ⊕ Bool):=runLoop cx (evF cx n) 14 4 f x
def l05_Small_l2 (n f:Nat) (x:((List (List UInt8×List UInt8))×(Int×(Int×Unit)))):Option (Unit ⊕ Int):=runLoop cx (evF cx n) 20 2 f x
def label_Parse_l3 (n f:Nat) (x:(List UInt8×(Bool×((List (List UInt8×List UInt8))×Unit)))):Option ((List UInt8×(Bool×((List (List UInt8×List UInt8))×Unit))) ⊕ ((List (List UInt8×List UInt8))×Int)):=runLoop cx (evF cx n) 27 3 f x
def r05_Parse_l3 (n f:Nat) (x:(List UInt8×((List (List UInt8×List UInt8))×(List UInt8×Unit)))):Option ((List UInt8×((List (List UInt8×List UInt8))×Unit)) ⊕ ((List (List UInt8×List UInt8))×Int)):=runLoop cx (evF cx n) 29 3 f x
def r05_Parse_l5 (n f:Nat) (x:(List UInt8×((List (List UInt8×List UInt8))×(List UInt8×(Int×Unit))))):Option ((List UInt8×((List (List UInt8×List UInt8))×(List UInt8×(Int×Unit)))) ⊕ ((List (List UInt8×List UInt8))×Int)):=runLoop cx (evF cx n) 29 5 f x
def r34_words_l4 (n f:Nat) (x:(List UInt8×((List (List UInt8))×(Int×(Int×Unit))))):Option (((List (List UInt8))×Unit) ⊕ (List (List UInt8))):=runLoop cx (evF cx n) 30 4 f x
def r34_value_l3 (n f:Nat) (x:(List UInt8×(Int×(Int×Unit)))):Option ((Int×Unit) ⊕ Int):=runLoop cx (evF cx n) 31 3 f x
def r05_Same_l4 (n f:Nat) (x:((List (List UInt8×List UInt8))×((List (List UInt8×List UInt8))×(Int×(Int×Unit))))):Option (Unit ⊕ Bool):=runLoop cx (evF cx n) 33 4 f x
def label_Text_l7 (n f:Nat) (x:(List UInt8×(Int×((List (List UInt8×List UInt8))×(Int×(Int×Unit)))))):Option ((List UInt8×Unit) ⊕ (List UInt8×Int)):=runLoop cx (evF cx n) 34 7 f x
def r05_Text_l5 (n f:Nat) (x:(List UInt8×((List (List UInt8×List UInt8))×(Int×(Int×Unit))))):Option ((List UInt8×Unit) ⊕ (List UInt8×Int)):=runLoop cx (evF cx n) 38 5 f x
def bytealg_LastIndexByteString_l2 (n f:Nat) (x:(List UInt8×(Int×(Int×Unit)))):Option (Unit ⊕ Int):=runLoop cx (evF cx n) 53 2 f x
def label_unquote_l3 (n f:Nat) (x:(List UInt8×((List Int)×(Int×Unit)))):Option (Unit ⊕ (List UInt8×(List UInt8×Bool))):=runLoop cx (evF cx n) 56 3 f x
def label_Check_l5 (n f:Nat) (x:((List (List UInt8×List UInt8))×(Int×((List (List UInt8×List UInt8))×(Int×(Int×Unit)))))):Option (Unit ⊕ Int):=runLoop cx (evF cx n) 57 5 f x
def r05_value_l3 (n f:Nat) (x:(List UInt8×(List UInt8×(Int×Unit)))):Option (Unit ⊕ (List UInt8×Int)):=runLoop cx (evF cx n) 61 3 f x
def label_quote_l2 (n f:Nat) (x:(List UInt8×((List Int)×(Int×(Int×Unit))))):Option ((List UInt8×Unit) ⊕ List UInt8):=runLoop cx (evF cx n) 64 2 f x
def r05_Check_l5 (n f:Nat) (x:((List (List UInt8×List UInt8))×(Int×((List (List UInt8×List UInt8))×(Int×(Int×Unit)))))):Option ((Int×Unit) ⊕ Int):=runLoop cx (evF cx n) 67 5 f x
def r05_quote_l3 (n f:Nat) (x:(List UInt8×(List UInt8×(Int×Unit)))):Option ((List UInt8×Unit) ⊕ List UInt8):=runLoop cx (evF cx n) 68 3 f x
def sl_Equal_Label_l4 (n f:Nat) (x:((List (List UInt8×List UInt8))×((List (List UInt8×List UInt8))×(Int×(Int×Unit))))):Option (Unit ⊕ Bool):=runLoop cx (evF cx n) 70 4 f x
def strings_genSplit_l11 (n f:Nat) (x:(List UInt8×(List UInt8×(Int×(Int×((List (List UInt8))×(Int×Unit))))))):Option ((List UInt8×((List (List UInt8))×(Int×Unit))) ⊕ (List (List UInt8))):=runLoop cx (evF cx n) 89 11 f x
def strconv_formatBase10_l1 (n f:Nat) (x:((List Int×(Nat×Nat))×(Int×(Int×Unit)))):Option (((List Int×(Nat×Nat))×(Int×(Int×Unit))) ⊕ (List Int×(Nat×Nat))):=runLoop cx (evF cx n) 95 1 f x
def r05_name_l4 (n f:Nat) (x:(List UInt8×(Int×Unit))):Option (Unit ⊕ Bool):=runLoop cx (evF cx n) 97 4 f x
def r01_Div_l8 (n f:Nat) (x:((Int×Int)×((List Int)×((Int×Int)×((List Int)×((Int×Int)×(Int×Unit))))))):Option (((Int×Int)×((List Int)×((Int×Int)×Unit))) ⊕ ((Int×Int)×(Int×Int))):=runLoop cx (evF cx n) 98 8 f x
def r01_Sub_l6 (n f:Nat) (x:((Int×Int)×((List Int)×((List Int)×(Int×(Int×Unit)))))):Option (((Int×Int)×((List Int)×Unit)) ⊕ ((Int×Int)×Int)):=runLoop cx (evF cx n) 142 6 f x
def sl_IndexFunc_byte_l2 (n f:Nat) (x:((List Int)×(((Int×Unit)→Option Bool)×(Int×(Int×Unit))))):Option (Unit ⊕ Int):=runLoop cx (evF cx n) 180 2 f x
theorem obs {α β:Type} (x:α) (f:α→Option β):obind (some x) f=f x:=obind_some x f
theorem tfd {α:Type} (p:Prop) [Decidable p] (x y:α):tif (decide p) x y=if p then x else y:=tif_dec p x y
theorem tff {α:Type} (x y:α):tif false x y=y:=tif_false x y
theorem tft {α:Type} (x y:α):tif true x y=x:=tif_true x y
theorem tfn {α:Type} (b:Bool) (x y:α):tif (!b) x y=tif b y x:=by cases b <;> rfl
end
end Go.Proofs.YtjionkknnajjgaaGreatDoor
