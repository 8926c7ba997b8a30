/- Trees, printed by program. -/
import Derived.Test.YtgcaeappeolhjaaGreatDoorCx
import Derived.KernelRfl
set_option linter.unusedVariables false
namespace Go.Proofs.YtgcaeappeolhjaaGreatDoor
open Go.Flat
noncomputable section
abbrev TEvent:=(Int×(Int×(Int×Bool)))
abbrev TAct:=(Int×((List (List UInt8×List UInt8))×(TEvent×(Int×(Int×(Int×Int))))))
abbrev Tscript_writer:=((List Int)×(Bool×TAct))
def bs_2753755:List UInt8:=[0,1,2,2,3,3,3,3,4,4,4,4,4,4,4,4,5,5,5,5,5,5,5,5,5,5,5,5,5,5,5,5,6,6,6,6,6,6,6,6,6,6,6,6,6,6,6,6,6,6,6,6,6,6,6,6,6,6,6,6,6,6,6,6,7,7,7,7,7,7,7,7,7,7,7,7,7,7,7,7,7,7,7,7,7,7,7,7,7,7,7,7,7,7,7,7,7,7,7,7,7,7,7,7,7,7,7,7,7,7,7,7,7,7,7,7,7,7,7,7,7,7,7,7,7,7,7,7,8,8,8,8,8,8,8,8,8,8,8,8,8,8,8,8,8,8,8,8,8,8,8,8,8,8,8,8,8,8,8,8,8,8,8,8,8,8,8,8,8,8,8,8,8,8,8,8,8,8,8,8,8,8,8,8,8,8,8,8,8,8,8,8,8,8,8,8,8,8,8,8,8,8,8,8,8,8,8,8,8,8,8,8,8,8,8,8,8,8,8,8,8,8,8,8,8,8,8,8,8,8,8,8,8,8,8,8,8,8,8,8,8,8,8,8,8,8,8,8,8,8,8,8,8,8,8,8]
def bs_92989263:List UInt8:=[48,48,48,49,48,50,48,51,48,52,48,53,48,54,48,55,48,56,48,57,49,48,49,49,49,50,49,51,49,52,49,53,49,54,49,55,49,56,49,57,50,48,50,49,50,50,50,51,50,52,50,53,50,54,50,55,50,56,50,57,51,48,51,49,51,50,51,51,51,52,51,53,51,54,51,55,51,56,51,57,52,48,52,49,52,50,52,51,52,52,52,53,52,54,52,55,52,56,52,57,53,48,53,49,53,50,53,51,53,52,53,53,53,54,53,55,53,56,53,57,54,48,54,49,54,50,54,51,54,52,54,53,54,54,54,55,54,56,54,57,55,48,55,49,55,50,55,51,55,52,55,53,55,54,55,55,55,56,55,57,56,48,56,49,56,50,56,51,56,52,56,53,56,54,56,55,56,56,56,57,57,48,57,49,57,50,57,51,57,52,57,53,57,54,57,55,57,56,57,57]
def l29_ScriptLines (n:Nat) (a:TAct) (b:TAct) (line:List UInt8):Option Bool:=evF cx n 3 ((a,b,line,()):El (cx.arg 3))
def l29_ScriptTexts (n:Nat) (l:(List TAct)) (text:List UInt8):Option Bool:=evF cx n 4 ((l,text,()):El (cx.arg 4))
def l05_Small (n:Nat) (l:(List (List UInt8×List UInt8))):Option Int:=evF cx n 6 ((l,()):El (cx.arg 6))
def l29_lives (n:Nat)  : Option Bool:=evF cx n 7 (():El (cx.arg 7))
def script_Line (n:Nat) (a:TAct):Option (List UInt8×Int):=evF cx n 8 ((a,()):El (cx.arg 8))
def r29_Line (n:Nat) (a:TAct):Option (List UInt8×Int):=evF cx n 9 ((a,()):El (cx.arg 9))
def script_Parse (n:Nat) (line:List UInt8):Option (TAct×Int):=evF cx n 10 ((line,()):El (cx.arg 10))
def r29_Parse (n:Nat) (line:List UInt8):Option (TAct×Int):=evF cx n 11 ((line,()):El (cx.arg 11))
def r29_Same (n:Nat) (a:TAct) (b:TAct):Option Bool:=evF cx n 12 ((a,b,()):El (cx.arg 12))
def script_Same (n:Nat) (a:TAct) (b:TAct):Option Bool:=evF cx n 13 ((a,b,()):El (cx.arg 13))
def l29_Small (n:Nat) (l:(List TAct)):Option Int:=evF cx n 14 ((l,()):El (cx.arg 14))
def script_Put (n:Nat) (acts:(List TAct)):Option (List UInt8×Int):=evF cx n 15 ((acts,()):El (cx.arg 15))
def r29_Put (n:Nat) (acts:(List TAct)):Option (List UInt8×Int):=evF cx n 16 ((acts,()):El (cx.arg 16))
def script_Get (n:Nat) (text:List UInt8):Option ((List TAct)×(Int×Int)):=evF cx n 17 ((text,()):El (cx.arg 17))
def r29_Get (n:Nat) (text:List UInt8):Option ((List TAct)×(Int×Int)):=evF cx n 18 ((text,()):El (cx.arg 18))
def r29_SameList (n:Nat) (a:(List TAct)) (b:(List TAct)):Option Bool:=evF cx n 19 ((a,b,()):El (cx.arg 19))
def script_writer_act (n:Nat) (w:Tscript_writer) (a:TAct):Option Tscript_writer:=evF cx n 33 ((w,a,()):El (cx.arg 33))
def r05_Text (n:Nat) (l:(List (List UInt8×List UInt8))):Option (List UInt8×Int):=evF cx n 34 ((l,()):El (cx.arg 34))
def r29_num (n:Nat) (n_:Int):Option (List UInt8):=evF cx n 35 ((n_,()):El (cx.arg 35))
def script_reader_act (n:Nat) (r:(List UInt8×Bool)):Option (TAct×(List UInt8×Bool)):=evF cx n 36 ((r,()):El (cx.arg 36))
def r29_guess (n:Nat) (line:List UInt8):Option TAct:=evF cx n 37 ((line,()):El (cx.arg 37))
def r05_Same (n:Nat) (a:(List (List UInt8×List UInt8))) (b:(List (List UInt8×List UInt8))):Option Bool:=evF cx n 38 ((a,b,()):El (cx.arg 38))
def label_Same (n:Nat) (a:(List (List UInt8×List UInt8))) (b:(List (List UInt8×List UInt8))):Option Bool:=evF cx n 39 ((a,b,()):El (cx.arg 39))
def strings_Builder_WriteString (n:Nat) (b:List UInt8) (s:List UInt8):Option (Int×(Bool×List UInt8)):=evF cx n 40 ((b,s,()):El (cx.arg 40))
def strings_Builder_WriteByte (n:Nat) (b:List UInt8) (c:Int):Option (Bool×List UInt8):=evF cx n 41 ((b,c,()):El (cx.arg 41))
def strings_Builder_String (n:Nat) (b:List UInt8):Option (List UInt8×List UInt8):=evF cx n 42 ((b,()):El (cx.arg 42))
def strings_Cut (n:Nat) (s:List UInt8) (sep:List UInt8):Option (List UInt8×(List UInt8×Bool)):=evF cx n 43 ((s,sep,()):El (cx.arg 43))
def label_Parse (n:Nat) (s:List UInt8):Option ((List (List UInt8×List UInt8))×Int):=evF cx n 45 ((s,()):El (cx.arg 45))
def r05_Parse (n:Nat) (s:List UInt8):Option ((List (List UInt8×List UInt8))×Int):=evF cx n 47 ((s,()):El (cx.arg 47))
def label_Text (n:Nat) (l:(List (List UInt8×List UInt8))):Option (List UInt8×Int):=evF cx n 51 ((l,()):El (cx.arg 51))
def strconv_AppendUint (n:Nat) (dst:(List Int)) (i:Int) (base:Int):Option (List Int):=evF cx n 53 ((dst,i,base,()):El (cx.arg 53))
def strconv_AppendInt (n:Nat) (dst:(List Int)) (i:Int) (base:Int):Option (List Int):=evF cx n 54 ((dst,i,base,()):El (cx.arg 54))
def script_writer_event (n:Nat) (w:Tscript_writer) (e:TEvent):Option Tscript_writer:=evF cx n 57 ((w,e,()):El (cx.arg 57))
def script_writer_labels (n:Nat) (w:Tscript_writer) (l:(List (List UInt8×List UInt8))):Option Tscript_writer:=evF cx n 58 ((w,l,()):El (cx.arg 58))
def script_writer_word (n:Nat) (w:Tscript_writer) (s:List UInt8):Option Tscript_writer:=evF cx n 59 ((w,s,()):El (cx.arg 59))
def script_writer_span (n:Nat) (w:Tscript_writer) (a:TAct):Option Tscript_writer:=evF cx n 60 ((w,a,()):El (cx.arg 60))
def script_plain (n:Nat) (k:Int):Option (List UInt8×Bool):=evF cx n 61 ((k,()):El (cx.arg 61))
def script_writer_nums (n:Nat) (w:Tscript_writer) (l:(List Int)):Option Tscript_writer:=evF cx n 62 ((w,l,()):El (cx.arg 62))
def r05_Check (n:Nat) (l:(List (List UInt8×List UInt8))):Option Int:=evF cx n 63 ((l,()):El (cx.arg 63))
def r05_quote (n:Nat) (s:List UInt8):Option (List UInt8):=evF cx n 64 ((s,()):El (cx.arg 64))
def r01_Text (n:Nat) (a:(Int×Int)):Option (List UInt8):=evF cx n 65 ((a,()):El (cx.arg 65))
def script_reader_word (n:Nat) (r:(List UInt8×Bool)):Option (List UInt8×(List UInt8×Bool)):=evF cx n 66 ((r,()):El (cx.arg 66))
def script_reader_big (n:Nat) (r:(List UInt8×Bool)) (bits:Int):Option (Int×(List UInt8×Bool)):=evF cx n 67 ((r,bits,()):El (cx.arg 67))
def script_reader_num (n:Nat) (r:(List UInt8×Bool)):Option (Int×(List UInt8×Bool)):=evF cx n 68 ((r,()):El (cx.arg 68))
def script_reader_labels (n:Nat) (r:(List UInt8×Bool)):Option ((List (List UInt8×List UInt8))×(List UInt8×Bool)):=evF cx n 69 ((r,()):El (cx.arg 69))
def r29_words (n:Nat) (s:List UInt8) (most:Int):Option ((List (List UInt8))×List UInt8):=evF cx n 70 ((s,most,()):El (cx.arg 70))
def r29_value (n:Nat) (s:List UInt8):Option Int:=evF cx n 71 ((s,()):El (cx.arg 71))
def sl_Equal_Label (n:Nat) (s1:(List (List UInt8×List UInt8))) (s2:(List (List UInt8×List UInt8))):Option Bool:=evF cx n 72 ((s1,s2,()):El (cx.arg 72))
def stringslite_Cut (n:Nat) (s:List UInt8) (sep:List UInt8):Option (List UInt8×(List UInt8×Bool)):=evF cx n 74 ((s,sep,()):El (cx.arg 74))
def strings_CutPrefix (n:Nat) (s:List UInt8) (prefix_:List UInt8):Option (List UInt8×Bool):=evF cx n 76 ((s,prefix_,()):El (cx.arg 76))
def label_unquote (n:Nat) (s:List UInt8):Option (List UInt8×(List UInt8×Bool)):=evF cx n 77 ((s,()):El (cx.arg 77))
def label_Check (n:Nat) (l:(List (List UInt8×List UInt8))):Option Int:=evF cx n 78 ((l,()):El (cx.arg 78))
def r05_value (n:Nat) (s:List UInt8):Option (List UInt8×Int):=evF cx n 82 ((s,()):El (cx.arg 82))
def label_quote (n:Nat) (b:List UInt8) (s:List UInt8):Option (List UInt8):=evF cx n 85 ((b,s,()):El (cx.arg 85))
def strconv_AppendUint_ (n:Nat) (dst:(List Int)) (i:Int) (base:Int):Option (List Int):=evF cx n 86 ((dst,i,base,()):El (cx.arg 86))
def strconv_AppendInt_ (n:Nat) (dst:(List Int)) (i:Int) (base:Int):Option (List Int):=evF cx n 87 ((dst,i,base,()):El (cx.arg 87))
def r05_name (n:Nat) (s:List UInt8):Option Bool:=evF cx n 88 ((s,()):El (cx.arg 88))
def r01_Div (n:Nat) (a:(Int×Int)) (n_:Int):Option ((Int×Int)×(Int×Int)):=evF cx n 89 ((a,n_,()):El (cx.arg 89))
def strconv_ParseUint (n:Nat) (s:List UInt8) (base:Int) (bitSize:Int):Option (Int×Bool):=evF cx n 90 ((s,base,bitSize,()):El (cx.arg 90))
def stringslite_Index (n:Nat) (s:List UInt8) (substr:List UInt8):Option Int:=evF cx n 92 ((s,substr,()):El (cx.arg 92))
def stringslite_CutPrefix (n:Nat) (s:List UInt8) (prefix_:List UInt8):Option (List UInt8×Bool):=evF cx n 93 ((s,prefix_,()):El (cx.arg 93))
def label_name (n:Nat) (s:List UInt8):Option Bool:=evF cx n 94 ((s,()):El (cx.arg 94))
def stringslite_HasPrefix (n:Nat) (s:List UInt8) (prefix_:List UInt8):Option Bool:=evF cx n 97 ((s,prefix_,()):El (cx.arg 97))
def strconv_small (n:Nat) (i:Int):Option (List UInt8):=evF cx n 98 ((i,()):El (cx.arg 98))
def strconv_numDigits (n:Nat) (d:Int):Option Int:=evF cx n 99 ((d,()):El (cx.arg 99))
def strconv_formatBase10 (n:Nat) (a:(List Int×(Nat×Nat))) (u:Int):Option (List Int×(Nat×Nat)):=evF cx n 100 ((a,u,()):El (cx.arg 100))
def r01_Bytes (n:Nat) (a:(Int×Int)):Option (Int×(Int×(Int×(Int×(Int×(Int×(Int×(Int×(Int×(Int×(Int×(Int×(Int×(Int×(Int×Int))))))))))))))):=evF cx n 102 ((a,()):El (cx.arg 102))
def r01_Add (n:Nat) (a:(Int×Int)) (b:(Int×Int)):Option ((Int×Int)×Int):=evF cx n 103 ((a,b,()):El (cx.arg 103))
def r01_Less (n:Nat) (a:(Int×Int)) (b:(Int×Int)):Option Bool:=evF cx n 104 ((a,b,()):El (cx.arg 104))
def r01_Sub (n:Nat) (a:(Int×Int)) (b:(Int×Int)):Option ((Int×Int)×Int):=evF cx n 105 ((a,b,()):El (cx.arg 105))
def r01_Of (n:Nat) (l:(Int×(Int×(Int×(Int×(Int×(Int×(Int×(Int×(Int×(Int×(Int×(Int×(Int×(Int×(Int×Int)))))))))))))))):Option (Int×Int):=evF cx n 106 ((l,()):El (cx.arg 106))
def label_digit (n:Nat) (c:Int):Option Bool:=evF cx n 113 ((c,()):El (cx.arg 113))
def sl_ContainsFunc_byte (n:Nat) (s:(List Int)) (f_:((Int×Unit)→Option Bool)):Option Bool:=evF cx n 114 ((s,f_,()):El (cx.arg 114))
def label_name_1 (n:Nat) (c:Int):Option Bool:=evF cx n 115 ((c,()):El (cx.arg 115))
def label_sign (n:Nat) (c:Int):Option Bool:=evF cx n 116 ((c,()):El (cx.arg 116))
def strconv_log10Pow2 (n:Nat) (x:Int):Option Int:=evF cx n 121 ((x,()):El (cx.arg 121))
def math_bits_Len64 (n:Nat) (x:Int):Option Int:=evF cx n 122 ((x,()):El (cx.arg 122))
def strconv_bool2_int (n:Nat) (b:Bool):Option Int:=evF cx n 123 ((b,()):El (cx.arg 123))
def sl_IndexFunc_byte (n:Nat) (s:(List Int)) (f_:((Int×Unit)→Option Bool)):Option Int:=evF cx n 134 ((s,f_,()):El (cx.arg 134))
def l05_Small_l2 (n f:Nat) (x:((List (List UInt8×List UInt8))×(Int×(Int×Unit)))):Option (Unit ⊕ Int):=runLoop cx (evF cx n) 6 2 f x
def l29_Small_l4 (n f:Nat) (x:((List TAct)×(Int×(Int×Unit)))):Option (Unit ⊕ Int):=runLoop cx (evF cx n) 14 4 f x
def script_Put_l5 (n f:Nat) (x:(List UInt8×((List TAct)×(Int×(Int×Unit))))):Option ((List UInt8×Unit) ⊕ (List UInt8×Int)):=runLoop cx (evF cx n) 15 5 f x
def r29_Put_l5 (n f:Nat) (x:(List UInt8×((List TAct)×(Int×(Int×Unit))))):Option ((List UInt8×Unit) ⊕ (List UInt8×Int)):=runLoop cx (evF cx n) 16 5 f x
def script_Get_l2 (n f:Nat) (x:(List UInt8×((List TAct)×Unit))):Option (((List TAct)×Unit) ⊕ ((List TAct)×(Int×Int))):=runLoop cx (evF cx n) 17 2 f x
def r29_Get_l4 (n f:Nat) (x:(List UInt8×((List TAct)×(Int×(Int×Unit))))):Option ((List UInt8×((List TAct)×(Int×Unit))) ⊕ ((List TAct)×(Int×Int))):=runLoop cx (evF cx n) 18 4 f x
def r29_SameList_l4 (n f:Nat) (x:((List TAct)×((List TAct)×(Int×(Int×Unit))))):Option (Unit ⊕ Bool):=runLoop cx (evF cx n) 19 4 f x
def r05_Text_l5 (n f:Nat) (x:(List UInt8×((List (List UInt8×List UInt8))×(Int×(Int×Unit))))):Option ((List UInt8×Unit) ⊕ (List UInt8×Int)):=runLoop cx (evF cx n) 34 5 f x
def r29_guess_l3 (n f:Nat) (x:(List UInt8×(TAct×((List (List UInt8))×((List (List UInt8))×(List UInt8×Unit)))))):Option ((List UInt8×(TAct×((List (List UInt8))×((List (List UInt8))×(List UInt8×Unit))))) ⊕ TAct):=runLoop cx (evF cx n) 37 3 f x
def r05_Same_l4 (n f:Nat) (x:((List (List UInt8×List UInt8))×((List (List UInt8×List UInt8))×(Int×(Int×Unit))))):Option (Unit ⊕ Bool):=runLoop cx (evF cx n) 38 4 f x
def label_Parse_l3 (n f:Nat) (x:(List UInt8×(Bool×((List (List UInt8×List UInt8))×Unit)))):Option ((List UInt8×(Bool×((List (List UInt8×List UInt8))×Unit))) ⊕ ((List (List UInt8×List UInt8))×Int)):=runLoop cx (evF cx n) 45 3 f x
def r05_Parse_l3 (n f:Nat) (x:(List UInt8×((List (List UInt8×List UInt8))×(List UInt8×Unit)))):Option ((List UInt8×((List (List UInt8×List UInt8))×Unit)) ⊕ ((List (List UInt8×List UInt8))×Int)):=runLoop cx (evF cx n) 47 3 f x
def r05_Parse_l5 (n f:Nat) (x:(List UInt8×((List (List UInt8×List UInt8))×(List UInt8×(Int×Unit))))):Option ((List UInt8×((List (List UInt8×List UInt8))×(List UInt8×(Int×Unit)))) ⊕ ((List (List UInt8×List UInt8))×Int)):=runLoop cx (evF cx n) 47 5 f x
def label_Text_l7 (n f:Nat) (x:(List UInt8×(Int×((List (List UInt8×List UInt8))×(Int×(Int×Unit)))))):Option ((List UInt8×Unit) ⊕ (List UInt8×Int)):=runLoop cx (evF cx n) 51 7 f x
def script_writer_nums_l1 (n f:Nat) (x:(Tscript_writer×((List Int)×(Int×(Int×Unit))))):Option ((Tscript_writer×Unit) ⊕ Tscript_writer):=runLoop cx (evF cx n) 62 1 f x
def r05_Check_l5 (n f:Nat) (x:((List (List UInt8×List UInt8))×(Int×((List (List UInt8×List UInt8))×(Int×(Int×Unit)))))):Option ((Int×Unit) ⊕ Int):=runLoop cx (evF cx n) 63 5 f x
def r05_quote_l3 (n f:Nat) (x:(List UInt8×(List UInt8×(Int×Unit)))):Option ((List UInt8×Unit) ⊕ List UInt8):=runLoop cx (evF cx n) 64 3 f x
def r29_words_l2 (n f:Nat) (x:(List UInt8×(Int×((List (List UInt8))×Unit)))):Option ((List UInt8×((List (List UInt8))×Unit)) ⊕ ((List (List UInt8))×List UInt8)):=runLoop cx (evF cx n) 70 2 f x
def r29_words_l4 (n f:Nat) (x:(List UInt8×(Int×((List (List UInt8))×(Int×Unit))))):Option ((List UInt8×(Int×((List (List UInt8))×(Int×Unit)))) ⊕ ((List (List UInt8))×List UInt8)):=runLoop cx (evF cx n) 70 4 f x
def r29_value_l3 (n f:Nat) (x:(List UInt8×(Int×(Int×Unit)))):Option ((Int×Unit) ⊕ Int):=runLoop cx (evF cx n) 71 3 f x
def sl_Equal_Label_l4 (n f:Nat) (x:((List (List UInt8×List UInt8))×((List (List UInt8×List UInt8))×(Int×(Int×Unit))))):Option (Unit ⊕ Bool):=runLoop cx (evF cx n) 72 4 f x
def label_unquote_l3 (n f:Nat) (x:(List UInt8×((List Int)×(Int×Unit)))):Option (Unit ⊕ (List UInt8×(List UInt8×Bool))):=runLoop cx (evF cx n) 77 3 f x
def label_Check_l5 (n f:Nat) (x:((List (List UInt8×List UInt8))×(Int×((List (List UInt8×List UInt8))×(Int×(Int×Unit)))))):Option (Unit ⊕ Int):=runLoop cx (evF cx n) 78 5 f x
def r05_value_l3 (n f:Nat) (x:(List UInt8×(List UInt8×(Int×Unit)))):Option (Unit ⊕ (List UInt8×Int)):=runLoop cx (evF cx n) 82 3 f x
def label_quote_l2 (n f:Nat) (x:(List UInt8×((List Int)×(Int×(Int×Unit))))):Option ((List UInt8×Unit) ⊕ List UInt8):=runLoop cx (evF cx n) 85 2 f x
def r05_name_l4 (n f:Nat) (x:(List UInt8×(Int×Unit))):Option (Unit ⊕ Bool):=runLoop cx (evF cx n) 88 4 f x
def r01_Div_l8 (n f:Nat) (x:((Int×Int)×((List Int)×((Int×Int)×((List Int)×((Int×Int)×(Int×Unit))))))):Option (((Int×Int)×((List Int)×((Int×Int)×Unit))) ⊕ ((Int×Int)×(Int×Int))):=runLoop cx (evF cx n) 89 8 f x
def strconv_formatBase10_l1 (n f:Nat) (x:((List Int×(Nat×Nat))×(Int×(Int×Unit)))):Option (((List Int×(Nat×Nat))×(Int×(Int×Unit))) ⊕ (List Int×(Nat×Nat))):=runLoop cx (evF cx n) 100 1 f x
def r01_Sub_l6 (n f:Nat) (x:((Int×Int)×((List Int)×((List Int)×(Int×(Int×Unit)))))):Option (((Int×Int)×((List Int)×Unit)) ⊕ ((Int×Int)×Int)):=runLoop cx (evF cx n) 105 6 f x
def sl_IndexFunc_byte_l2 (n f:Nat) (x:((List Int)×(((Int×Unit)→Option Bool)×(Int×(Int×Unit))))):Option (Unit ⊕ Int):=runLoop cx (evF cx n) 134 2 f x
theorem obs {α β:Type} (x:α) (f:α→Option β):obind (some x) f=f x:=obind_some x f
theorem tfd {α:Type} (p:Prop) [Decidable p] (x y:α):tif (decide p) x y=if p then x else y:=tif_dec p x y
theorem tff {α:Type} (x y:α):tif false x y=y:=tif_false x y
theorem tft {α:Type} (x y:α):tif true x y=x:=tif_true x y
theorem tfn {α:Type} (b:Bool) (x y:α):tif (!b) x y=tif b y x:=by cases b <;> rfl
end
end Go.Proofs.YtgcaeappeolhjaaGreatDoor
