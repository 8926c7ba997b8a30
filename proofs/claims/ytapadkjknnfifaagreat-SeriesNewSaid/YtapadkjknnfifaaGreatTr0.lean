/-
  The functions of this seat, as the flat reading has them. Printed by program.
-/
import Derived.Test.YtapadkjknnfifaaGreatCx
import Derived.KernelRfl
set_option linter.unusedVariables false
namespace Go.Proofs.YtapadkjknnfifaaGreat
open Go.Flat
abbrev TEvent := (Int × (Int × (Int × Bool)))
abbrev TConfig := (Int × ((Int × (Int × Int)) × ((Int × (Int × Int)) × (Int × Int))))
abbrev TCell := (Int × (TEvent × (TEvent × ((Int × Int) × (Int × (Int × Int))))))
abbrev TSlot := (Int × TCell)
abbrev TSeries := ((List (List UInt8 × List UInt8)) × (Int × ((Int × (Int × (List TEvent))) × (((List TSlot) × ((List TSlot) × (List TSlot))) × TSlot))))
noncomputable def l15_SeriesNew (n : Nat) (c : TConfig) (l : (List (List UInt8 × List UInt8))) (s : TSeries) (o : TSeries) (last : Int) (now : Int) : Option Bool := evF cx n 5 ((c, l, s, o, last, now, ()) : El (cx.arg 5))
noncomputable def l15_Small (n : Nat) (s : TSeries) : Option Int := evF cx n 19 ((s, ()) : El (cx.arg 19))
noncomputable def l15_lives (n : Nat)  : Option Bool := evF cx n 20 (() : El (cx.arg 20))
noncomputable def series_Put (n : Nat) (c : TConfig) (s : TSeries) (e : TEvent) : Option (TSeries × Int) := evF cx n 21 ((c, s, e, ()) : El (cx.arg 21))
noncomputable def series_Cell (n : Nat) (c : TConfig) (s : TSeries) (k : Int) (i : Int) : Option (TCell × Int) := evF cx n 23 ((c, s, k, i, ()) : El (cx.arg 23))
noncomputable def series_Range (n : Nat) (c : TConfig) (s : TSeries) (k : Int) (i : Int) (j : Int) : Option (TCell × Int) := evF cx n 25 ((c, s, k, i, j, ()) : El (cx.arg 25))
noncomputable def series_Check (n : Nat) (c : TConfig) (s : TSeries) : Option Int := evF cx n 27 ((c, s, ()) : El (cx.arg 27))
noncomputable def r15_Same (n : Nat) (a : TSeries) (b : TSeries) : Option Bool := evF cx n 29 ((a, b, ()) : El (cx.arg 29))
noncomputable def l05_Small (n : Nat) (l : (List (List UInt8 × List UInt8))) : Option Int := evF cx n 30 ((l, ()) : El (cx.arg 30))
noncomputable def series_New (n : Nat) (c : TConfig) (l : (List (List UInt8 × List UInt8))) : Option (TSeries × Int) := evF cx n 31 ((c, l, ()) : El (cx.arg 31))
noncomputable def r15_New (n : Nat) (c : TConfig) (l : (List (List UInt8 × List UInt8))) : Option (TSeries × Int) := evF cx n 32 ((c, l, ()) : El (cx.arg 32))
noncomputable def series_Same (n : Nat) (a : TSeries) (b : TSeries) : Option Bool := evF cx n 33 ((a, b, ()) : El (cx.arg 33))
noncomputable def series_Dead (n : Nat) (c : TConfig) (last : Int) (now : Int) : Option Bool := evF cx n 34 ((c, last, now, ()) : El (cx.arg 34))
noncomputable def r15_Dead (n : Nat) (c : TConfig) (last : Int) (now : Int) : Option Bool := evF cx n 35 ((c, last, now, ()) : El (cx.arg 35))
noncomputable def r12_SameList (n : Nat) (a : (List TEvent)) (b : (List TEvent)) : Option Bool := evF cx n 37 ((a, b, ()) : El (cx.arg 37))
noncomputable def l10_Fit (n : Nat)  : Option TConfig := evF cx n 39 (() : El (cx.arg 39))
noncomputable def window_Oldest (n : Nat) (now : Int) (w : Int) (n_ : Int) : Option (Int × Int) := evF cx n 43 ((now, w, n_, ()) : El (cx.arg 43))
noncomputable def r09_Oldest (n : Nat) (now : Int) (w : Int) (n_ : Int) : Option (Int × Int) := evF cx n 44 ((now, w, n_, ()) : El (cx.arg 44))
noncomputable def r09_Of (n : Nat) (t : Int) (w : Int) : Option (Int × Int) := evF cx n 45 ((t, w, ()) : El (cx.arg 45))
noncomputable def l14_Small (n : Nat) (s : ((List TSlot) × ((List TSlot) × (List TSlot)))) : Option Int := evF cx n 46 ((s, ()) : El (cx.arg 46))
noncomputable def r10_Check (n : Nat) (c : TConfig) : Option Int := evF cx n 61 ((c, ()) : El (cx.arg 61))
noncomputable def r05_Check (n : Nat) (l : (List (List UInt8 × List UInt8))) : Option Int := evF cx n 62 ((l, ()) : El (cx.arg 62))
noncomputable def r05_Same (n : Nat) (a : (List (List UInt8 × List UInt8))) (b : (List (List UInt8 × List UInt8))) : Option Bool := evF cx n 68 ((a, b, ()) : El (cx.arg 68))
noncomputable def r12_Same (n : Nat) (a : (Int × (Int × (List TEvent)))) (b : (Int × (Int × (List TEvent)))) : Option Bool := evF cx n 69 ((a, b, ()) : El (cx.arg 69))
noncomputable def r14_Same (n : Nat) (a : ((List TSlot) × ((List TSlot) × (List TSlot)))) (b : ((List TSlot) × ((List TSlot) × (List TSlot)))) : Option Bool := evF cx n 70 ((a, b, ()) : El (cx.arg 70))
noncomputable def conf_Check (n : Nat) (c : TConfig) : Option Int := evF cx n 71 ((c, ()) : El (cx.arg 71))
noncomputable def label_Check (n : Nat) (l : (List (List UInt8 × List UInt8))) : Option Int := evF cx n 72 ((l, ()) : El (cx.arg 72))
noncomputable def slices_Clone_Label (n : Nat) (s : (List (List UInt8 × List UInt8))) : Option (List (List UInt8 × List UInt8)) := evF cx n 73 ((s, ()) : El (cx.arg 73))
noncomputable def fold_Empty (n : Nat) (c : TConfig) : Option ((List TSlot) × ((List TSlot) × (List TSlot))) := evF cx n 74 ((c, ()) : El (cx.arg 74))
noncomputable def r14_Empty (n : Nat) (c : TConfig) : Option ((List TSlot) × ((List TSlot) × (List TSlot))) := evF cx n 75 ((c, ()) : El (cx.arg 75))
noncomputable def label_Same (n : Nat) (a : (List (List UInt8 × List UInt8))) (b : (List (List UInt8 × List UInt8))) : Option Bool := evF cx n 76 ((a, b, ()) : El (cx.arg 76))
noncomputable def raw_Same (n : Nat) (a : (Int × (Int × (List TEvent)))) (b : (Int × (Int × (List TEvent)))) : Option Bool := evF cx n 77 ((a, b, ()) : El (cx.arg 77))
noncomputable def slices_Equal_Slot (n : Nat) (s1 : (List TSlot)) (s2 : (List TSlot)) : Option Bool := evF cx n 78 ((s1, s2, ()) : El (cx.arg 78))
noncomputable def window_Gone (n : Nat) (t : Int) (now : Int) (w : Int) (n_ : Int) : Option Bool := evF cx n 79 ((t, now, w, n_, ()) : El (cx.arg 79))
noncomputable def r09_Gone (n : Nat) (t : Int) (now : Int) (w : Int) (n_ : Int) : Option Bool := evF cx n 80 ((t, now, w, n_, ()) : El (cx.arg 80))
noncomputable def window_Of (n : Nat) (t : Int) (w : Int) : Option (Int × Int) := evF cx n 94 ((t, w, ()) : El (cx.arg 94))
noncomputable def window_in_int (n : Nat) (n_ : Int) (low : Int) (high : Int) : Option Bool := evF cx n 95 ((n_, low, high, ()) : El (cx.arg 95))
noncomputable def r09_width (n : Nat) (w : Int) : Option Bool := evF cx n 96 ((w, ()) : El (cx.arg 96))
noncomputable def r10_place (n : Nat) (c : TConfig) : Option Int := evF cx n 116 ((c, ()) : El (cx.arg 116))
noncomputable def r05_name (n : Nat) (s : List UInt8) : Option Bool := evF cx n 117 ((s, ()) : El (cx.arg 117))
noncomputable def r13_Same (n : Nat) (a : (List TSlot)) (b : (List TSlot)) : Option Bool := evF cx n 119 ((a, b, ()) : El (cx.arg 119))
noncomputable def conf_in_int (n : Nat) (n_ : Int) (low : Int) (high : Int) : Option Bool := evF cx n 120 ((n_, low, high, ()) : El (cx.arg 120))
noncomputable def conf_in_int64 (n : Nat) (n_ : Int) (low : Int) (high : Int) : Option Bool := evF cx n 121 ((n_, low, high, ()) : El (cx.arg 121))
noncomputable def conf_place (n : Nat) (c : TConfig) : Option Int := evF cx n 122 ((c, ()) : El (cx.arg 122))
noncomputable def label_name (n : Nat) (s : List UInt8) : Option Bool := evF cx n 123 ((s, ()) : El (cx.arg 123))
noncomputable def tier_New (n : Nat) (n_ : Int) : Option (List TSlot) := evF cx n 124 ((n_, ()) : El (cx.arg 124))
noncomputable def r13_New (n : Nat) (n_ : Int) : Option (List TSlot) := evF cx n 125 ((n_, ()) : El (cx.arg 125))
noncomputable def slices_Equal_Label (n : Nat) (s1 : (List (List UInt8 × List UInt8))) (s2 : (List (List UInt8 × List UInt8))) : Option Bool := evF cx n 126 ((s1, s2, ()) : El (cx.arg 126))
noncomputable def slices_Equal_Event (n : Nat) (s1 : (List TEvent)) (s2 : (List TEvent)) : Option Bool := evF cx n 127 ((s1, s2, ()) : El (cx.arg 127))
noncomputable def window_in_int64 (n : Nat) (n_ : Int) (low : Int) (high : Int) : Option Bool := evF cx n 137 ((n_, low, high, ()) : El (cx.arg 137))
noncomputable def window_width (n : Nat) (w : Int) : Option Bool := evF cx n 138 ((w, ()) : El (cx.arg 138))
noncomputable def r10_parts (n : Nat) (n_ : Int) (each : Int) : Option Int := evF cx n 159 ((n_, each, ()) : El (cx.arg 159))
noncomputable def conf_parts (n : Nat) (n_ : Int) (by_ : Int) : Option Int := evF cx n 160 ((n_, by_, ()) : El (cx.arg 160))
noncomputable def label_digit (n : Nat) (c : Int) : Option Bool := evF cx n 161 ((c, ()) : El (cx.arg 161))
noncomputable def slices_ContainsFunc_byte (n : Nat) (s : (List Int)) (f_ : ((Int × Unit) → Option Bool)) : Option Bool := evF cx n 162 ((s, f_, ()) : El (cx.arg 162))
noncomputable def label_name_1 (n : Nat) (c : Int) : Option Bool := evF cx n 163 ((c, ()) : El (cx.arg 163))
noncomputable def label_sign (n : Nat) (c : Int) : Option Bool := evF cx n 164 ((c, ()) : El (cx.arg 164))
noncomputable def slices_IndexFunc_byte (n : Nat) (s : (List Int)) (f_ : ((Int × Unit) → Option Bool)) : Option Int := evF cx n 191 ((s, f_, ()) : El (cx.arg 191))
noncomputable def l05_Small_l2 (n f : Nat) (x : ((List (List UInt8 × List UInt8)) × (Int × (Int × Unit)))) : Option (Unit ⊕ Int) := runLoop cx (evF cx n) 30 2 f x
noncomputable def r12_SameList_l4 (n f : Nat) (x : ((List TEvent) × ((List TEvent) × (Int × (Int × Unit))))) : Option (Unit ⊕ Bool) := runLoop cx (evF cx n) 37 4 f x
noncomputable def l14_Small_l2 (n f : Nat) (x : (((List TSlot) × ((List TSlot) × (List TSlot))) × (Int × Unit))) : Option (Unit ⊕ Int) := runLoop cx (evF cx n) 46 2 f x
noncomputable def r05_Check_l5 (n f : Nat) (x : ((List (List UInt8 × List UInt8)) × (Int × ((List (List UInt8 × List UInt8)) × (Int × (Int × Unit)))))) : Option ((Int × Unit) ⊕ Int) := runLoop cx (evF cx n) 62 5 f x
noncomputable def r05_Same_l4 (n f : Nat) (x : ((List (List UInt8 × List UInt8)) × ((List (List UInt8 × List UInt8)) × (Int × (Int × Unit))))) : Option (Unit ⊕ Bool) := runLoop cx (evF cx n) 68 4 f x
noncomputable def label_Check_l5 (n f : Nat) (x : ((List (List UInt8 × List UInt8)) × (Int × ((List (List UInt8 × List UInt8)) × (Int × (Int × Unit)))))) : Option (Unit ⊕ Int) := runLoop cx (evF cx n) 72 5 f x
noncomputable def slices_Equal_Slot_l4 (n f : Nat) (x : ((List TSlot) × ((List TSlot) × (Int × (Int × Unit))))) : Option (Unit ⊕ Bool) := runLoop cx (evF cx n) 78 4 f x
noncomputable def r05_name_l4 (n f : Nat) (x : (List UInt8 × (Int × Unit))) : Option (Unit ⊕ Bool) := runLoop cx (evF cx n) 117 4 f x
noncomputable def r13_Same_l4 (n f : Nat) (x : ((List TSlot) × ((List TSlot) × (Int × (Int × Unit))))) : Option (Unit ⊕ Bool) := runLoop cx (evF cx n) 119 4 f x
noncomputable def slices_Equal_Label_l4 (n f : Nat) (x : ((List (List UInt8 × List UInt8)) × ((List (List UInt8 × List UInt8)) × (Int × (Int × Unit))))) : Option (Unit ⊕ Bool) := runLoop cx (evF cx n) 126 4 f x
noncomputable def slices_Equal_Event_l4 (n f : Nat) (x : ((List TEvent) × ((List TEvent) × (Int × (Int × Unit))))) : Option (Unit ⊕ Bool) := runLoop cx (evF cx n) 127 4 f x
noncomputable def r10_parts_l2 (n f : Nat) (x : (Int × (Int × (Int × Unit)))) : Option ((Int × Unit) ⊕ Int) := runLoop cx (evF cx n) 159 2 f x
noncomputable def slices_IndexFunc_byte_l2 (n f : Nat) (x : ((List Int) × (((Int × Unit) → Option Bool) × (Int × (Int × Unit))))) : Option (Unit ⊕ Int) := runLoop cx (evF cx n) 191 2 f x
end Go.Proofs.YtapadkjknnfifaaGreat
