/-
  The functions of this seat, as the flat reading has them. Printed by program.
-/
import Derived.Test.YtapadkjknnfifaaGreatCx
import Derived.KernelRfl
set_option linter.unusedVariables false
namespace Go.Proofs.YtapadkjknnfifaaGreat
open Go.Flat
abbrev Truntime_boundsError := (Int × (Int × (Bool × Int)))
abbrev TEvent := (Int × (Int × (Int × Bool)))
abbrev TEvent_ := (Int × ((List TEvent) × (Int × Int)))
abbrev TConfig := (Int × ((Int × (Int × Int)) × ((Int × (Int × Int)) × (Int × Int))))
abbrev TCell := (Int × (TEvent × (TEvent × ((Int × Int) × (Int × (Int × Int))))))
abbrev TSlot := (Int × TCell)
abbrev Tfold_stack := (TConfig × ((List TSlot) × ((List TSlot) × (List TSlot))))
abbrev TSeries := ((List (List UInt8 × List UInt8)) × (Int × ((Int × (Int × (List TEvent))) × (((List TSlot) × ((List TSlot) × (List TSlot))) × TSlot))))
abbrev Tseries_kept := (TConfig × TSeries)
abbrev TState := (TConfig × (Int × (Int × (List TSeries))))
noncomputable def l20_CascadeTells (n : Nat) (s : TState) (now : Int) (k : Int) : Option Bool := evF cx n 3 ((s, now, k, ()) : El (cx.arg 3))
noncomputable def l15_SeriesTells (n : Nat) (c : TConfig) (s : TSeries) (e : TEvent) (k : Int) (i : Int) (j : Int) : Option Bool := evF cx n 4 ((c, s, e, k, i, j, ()) : El (cx.arg 4))
noncomputable def l15_SeriesNew (n : Nat) (c : TConfig) (l : (List (List UInt8 × List UInt8))) (s : TSeries) (o : TSeries) (last : Int) (now : Int) : Option Bool := evF cx n 5 ((c, l, s, o, last, now, ()) : El (cx.arg 5))
noncomputable def l15_SeriesAgree (n : Nat) (c : TConfig) (l : (List TEvent)) (k : Int) (i : Int) (j : Int) : Option Bool := evF cx n 6 ((c, l, k, i, j, ()) : El (cx.arg 6))
noncomputable def l15_SeriesExact (n : Nat) (c : TConfig) (l : (List TEvent)) (k : Int) (i : Int) (j : Int) : Option Bool := evF cx n 7 ((c, l, k, i, j, ()) : El (cx.arg 7))
noncomputable def l17_Small (n : Nat) (s : TState) : Option Int := evF cx n 8 ((s, ()) : El (cx.arg 8))
noncomputable def l20_lives (n : Nat)  : Option Bool := evF cx n 9 (() : El (cx.arg 9))
noncomputable def cascade_Tick (n : Nat) (s : TState) (now : Int) : Option (TState × Bool) := evF cx n 10 ((s, now, ()) : El (cx.arg 10))
noncomputable def r20_Tick (n : Nat) (s : TState) (now : Int) : Option (TState × Bool) := evF cx n 11 ((s, now, ()) : El (cx.arg 11))
noncomputable def cascade_Sealed (n : Nat) (s : TState) (k : Int) : Option (Int × Int) := evF cx n 12 ((s, k, ()) : El (cx.arg 12))
noncomputable def r20_Sealed (n : Nat) (s : TState) (k : Int) : Option (Int × Int) := evF cx n 13 ((s, k, ()) : El (cx.arg 13))
noncomputable def cascade_Kept (n : Nat) (s : TState) (k : Int) : Option (Int × (Int × Int)) := evF cx n 14 ((s, k, ()) : El (cx.arg 14))
noncomputable def r20_Kept (n : Nat) (s : TState) (k : Int) : Option (Int × (Int × Int)) := evF cx n 15 ((s, k, ()) : El (cx.arg 15))
noncomputable def r17_Same (n : Nat) (a : TState) (b : TState) : Option Bool := evF cx n 16 ((a, b, ()) : El (cx.arg 16))
noncomputable def cascade_Steps (n : Nat) (s : TState) (now : Int) : Option (Int × (Int × Int)) := evF cx n 17 ((s, now, ()) : El (cx.arg 17))
noncomputable def r20_Steps (n : Nat) (s : TState) (now : Int) : Option (Int × (Int × Int)) := evF cx n 18 ((s, now, ()) : El (cx.arg 18))
noncomputable def l15_Small (n : Nat) (s : TSeries) : Option Int := evF cx n 19 ((s, ()) : El (cx.arg 19))
noncomputable def l15_lives (n : Nat)  : Option Bool := evF cx n 20 (() : El (cx.arg 20))
noncomputable def series_Put (n : Nat) (c : TConfig) (s : TSeries) (e : TEvent) : Option (TSeries × Int) := evF cx n 21 ((c, s, e, ()) : El (cx.arg 21))
noncomputable def r15_Put (n : Nat) (c : TConfig) (s : TSeries) (e : TEvent) : Option (TSeries × Int) := evF cx n 22 ((c, s, e, ()) : El (cx.arg 22))
noncomputable def series_Cell (n : Nat) (c : TConfig) (s : TSeries) (k : Int) (i : Int) : Option (TCell × Int) := evF cx n 23 ((c, s, k, i, ()) : El (cx.arg 23))
noncomputable def r15_Cell (n : Nat) (c : TConfig) (s : TSeries) (k : Int) (i : Int) : Option (TCell × Int) := evF cx n 24 ((c, s, k, i, ()) : El (cx.arg 24))
noncomputable def series_Range (n : Nat) (c : TConfig) (s : TSeries) (k : Int) (i : Int) (j : Int) : Option (TCell × Int) := evF cx n 25 ((c, s, k, i, j, ()) : El (cx.arg 25))
noncomputable def r15_Range (n : Nat) (c : TConfig) (s : TSeries) (k : Int) (i : Int) (j : Int) : Option (TCell × Int) := evF cx n 26 ((c, s, k, i, j, ()) : El (cx.arg 26))
noncomputable def series_Check (n : Nat) (c : TConfig) (s : TSeries) : Option Int := evF cx n 27 ((c, s, ()) : El (cx.arg 27))
noncomputable def r15_Check (n : Nat) (c : TConfig) (s : TSeries) : Option Int := evF cx n 28 ((c, s, ()) : El (cx.arg 28))
noncomputable def r15_Same (n : Nat) (a : TSeries) (b : TSeries) : Option Bool := evF cx n 29 ((a, b, ()) : El (cx.arg 29))
noncomputable def l05_Small (n : Nat) (l : (List (List UInt8 × List UInt8))) : Option Int := evF cx n 30 ((l, ()) : El (cx.arg 30))
noncomputable def series_New (n : Nat) (c : TConfig) (l : (List (List UInt8 × List UInt8))) : Option (TSeries × Int) := evF cx n 31 ((c, l, ()) : El (cx.arg 31))
noncomputable def r15_New (n : Nat) (c : TConfig) (l : (List (List UInt8 × List UInt8))) : Option (TSeries × Int) := evF cx n 32 ((c, l, ()) : El (cx.arg 32))
noncomputable def series_Same (n : Nat) (a : TSeries) (b : TSeries) : Option Bool := evF cx n 33 ((a, b, ()) : El (cx.arg 33))
noncomputable def series_Dead (n : Nat) (c : TConfig) (last : Int) (now : Int) : Option Bool := evF cx n 34 ((c, last, now, ()) : El (cx.arg 34))
noncomputable def r15_Dead (n : Nat) (c : TConfig) (last : Int) (now : Int) : Option Bool := evF cx n 35 ((c, last, now, ()) : El (cx.arg 35))
noncomputable def cell_Of (n : Nat) (l : (List TEvent)) : Option (TCell × Int) := evF cx n 36 ((l, ()) : El (cx.arg 36))
noncomputable def r12_SameList (n : Nat) (a : (List TEvent)) (b : (List TEvent)) : Option Bool := evF cx n 37 ((a, b, ()) : El (cx.arg 37))
noncomputable def state_New (n : Nat) (c : TConfig) : Option (TState × Int) := evF cx n 38 ((c, ()) : El (cx.arg 38))
noncomputable def l10_Fit (n : Nat)  : Option TConfig := evF cx n 39 (() : El (cx.arg 39))
noncomputable def state_Check (n : Nat) (s : TState) : Option Int := evF cx n 40 ((s, ()) : El (cx.arg 40))
noncomputable def r17_Check (n : Nat) (s : TState) : Option Int := evF cx n 41 ((s, ()) : El (cx.arg 41))
noncomputable def cascade_tiers (n : Nat) (s : TState) (k : Int) : Option Int := evF cx n 42 ((s, k, ()) : El (cx.arg 42))
noncomputable def window_Oldest (n : Nat) (now : Int) (w : Int) (n_ : Int) : Option (Int × Int) := evF cx n 43 ((now, w, n_, ()) : El (cx.arg 43))
noncomputable def r09_Oldest (n : Nat) (now : Int) (w : Int) (n_ : Int) : Option (Int × Int) := evF cx n 44 ((now, w, n_, ()) : El (cx.arg 44))
noncomputable def r09_Of (n : Nat) (t : Int) (w : Int) : Option (Int × Int) := evF cx n 45 ((t, w, ()) : El (cx.arg 45))
noncomputable def l14_Small (n : Nat) (s : ((List TSlot) × ((List TSlot) × (List TSlot)))) : Option Int := evF cx n 46 ((s, ()) : El (cx.arg 46))
noncomputable def series_open (n : Nat) (c : TConfig) (s : TSeries) : Option ((Option Tseries_kept) × Int) := evF cx n 47 ((c, s, ()) : El (cx.arg 47))
noncomputable def event_Check (n : Nat) (e : TEvent) : Option Int := evF cx n 48 ((e, ()) : El (cx.arg 48))
noncomputable def series_kept_turn (n : Nat) (s : Tseries_kept) (i : Int) : Option (Int × Tseries_kept) := evF cx n 49 ((s, i, ()) : El (cx.arg 49))
noncomputable def series_kept_add (n : Nat) (s : Tseries_kept) (i : Int) (e : TEvent) : Option (Int × Tseries_kept) := evF cx n 50 ((s, i, e, ()) : El (cx.arg 50))
noncomputable def r07_Check (n : Nat) (e : TEvent) : Option Int := evF cx n 51 ((e, ()) : El (cx.arg 51))
noncomputable def r14_Close (n : Nat) (c : TConfig) (s : ((List TSlot) × ((List TSlot) × (List TSlot)))) (open_ : TSlot) (j : Int) : Option (((List TSlot) × ((List TSlot) × (List TSlot))) × Int) := evF cx n 52 ((c, s, open_, j, ()) : El (cx.arg 52))
noncomputable def r12_Put (n : Nat) (r : (Int × (Int × (List TEvent)))) (room : Int) (e : TEvent) : Option ((Int × (Int × (List TEvent))) × Int) := evF cx n 53 ((r, room, e, ()) : El (cx.arg 53))
noncomputable def r08_Add (n : Nat) (c : TCell) (e : TEvent) : Option (TCell × Int) := evF cx n 54 ((c, e, ()) : El (cx.arg 54))
noncomputable def series_kept_now (n : Nat) (s : Tseries_kept) (k : Int) : Option (TCell × Int) := evF cx n 55 ((s, k, ()) : El (cx.arg 55))
noncomputable def tier_Get (n : Nat) (l : (List TSlot)) (i : Int) : Option TCell := evF cx n 56 ((l, i, ()) : El (cx.arg 56))
noncomputable def r15_one (n : Nat) (c : TConfig) (s : TSeries) (k : Int) (i : Int) : Option (TCell × Int) := evF cx n 57 ((c, s, k, i, ()) : El (cx.arg 57))
noncomputable def series_kept_span (n : Nat) (s : Tseries_kept) (k : Int) (i : Int) (j : Int) : Option (TCell × Int) := evF cx n 58 ((s, k, i, j, ()) : El (cx.arg 58))
noncomputable def r13_Fold (n : Nat) (l : (List TSlot)) (i : Int) (k : Int) : Option (TCell × Int) := evF cx n 59 ((l, i, k, ()) : El (cx.arg 59))
noncomputable def r08_Merge (n : Nat) (a : TCell) (b : TCell) : Option (TCell × Int) := evF cx n 60 ((a, b, ()) : El (cx.arg 60))
noncomputable def r10_Check (n : Nat) (c : TConfig) : Option Int := evF cx n 61 ((c, ()) : El (cx.arg 61))
noncomputable def r05_Check (n : Nat) (l : (List (List UInt8 × List UInt8))) : Option Int := evF cx n 62 ((l, ()) : El (cx.arg 62))
noncomputable def r12_Check (n : Nat) (r : (Int × (Int × (List TEvent)))) (room : Int) : Option Int := evF cx n 63 ((r, room, ()) : El (cx.arg 63))
noncomputable def r14_Check (n : Nat) (c : TConfig) (s : ((List TSlot) × ((List TSlot) × (List TSlot)))) : Option Int := evF cx n 64 ((c, s, ()) : El (cx.arg 64))
noncomputable def r13_All (n : Nat) (l : (List TSlot)) : Option (List TSlot) := evF cx n 65 ((l, ()) : El (cx.arg 65))
noncomputable def r12_Last (n : Nat) (r : (Int × (Int × (List TEvent)))) : Option (TEvent × Int) := evF cx n 66 ((r, ()) : El (cx.arg 66))
noncomputable def r13_Fits (n : Nat) (c : TCell) (w : Int) (i : Int) : Option Bool := evF cx n 67 ((c, w, i, ()) : El (cx.arg 67))
noncomputable def r05_Same (n : Nat) (a : (List (List UInt8 × List UInt8))) (b : (List (List UInt8 × List UInt8))) : Option Bool := evF cx n 68 ((a, b, ()) : El (cx.arg 68))
noncomputable def r12_Same (n : Nat) (a : (Int × (Int × (List TEvent)))) (b : (Int × (Int × (List TEvent)))) : Option Bool := evF cx n 69 ((a, b, ()) : El (cx.arg 69))
noncomputable def r14_Same (n : Nat) (a : ((List TSlot) × ((List TSlot) × (List TSlot)))) (b : ((List TSlot) × ((List TSlot) × (List TSlot)))) : Option Bool := evF cx n 70 ((a, b, ()) : El (cx.arg 70))
noncomputable def conf_Check (n : Nat) (c : TConfig) : Option Int := evF cx n 71 ((c, ()) : El (cx.arg 71))
noncomputable def label_Check (n : Nat) (l : (List (List UInt8 × List UInt8))) : Option Int := evF cx n 72 ((l, ()) : El (cx.arg 72))
noncomputable def slices_Clone_Label (n : Nat) (s : (List (List UInt8 × List UInt8))) : Option (List (List UInt8 × List UInt8)) := evF cx n 73 ((s, ()) : El (cx.arg 73))
noncomputable def fold_Empty (n : Nat) (c : TConfig) : Option ((List TSlot) × ((List TSlot) × (List TSlot))) := evF cx n 74 ((c, ()) : El (cx.arg 74))
noncomputable def r14_Empty (n : Nat) (c : TConfig) : Option ((List TSlot) × ((List TSlot) × (List TSlot))) := evF cx n 75 ((c, ()) : El (cx.arg 75))
noncomputable def label_Same (n : Nat) (a : (List (List UInt8 × List UInt8))) (b : (List (List UInt8 × List UInt8))) : Option Bool := evF cx n 76 ((a, b, ()) : El (cx.arg 76))
noncomputable def raw_Same (n : Nat) (a : (Int × (Int × (List TEvent)))) (b : (Int × (Int × (List TEvent)))) : Option Bool := evF cx n 77 ((a, b, ()) : El (cx.arg 77))
noncomputable def slices_Equal_Slot (n : Nat) (s1 : (List TSlot)) (s2 : (List TSlot)) : Option Bool := evF cx n 78 ((s1, s2, ()) : El (cx.arg 78))
noncomputable def window_Gone (n : Nat) (t : Int) (now : Int) (w : Int) (n_ : Int) : Option Bool := evF cx n 79 ((t, now, w, n_, ()) : El (cx.arg 79))
noncomputable def r09_Gone (n : Nat) (t : Int) (now : Int) (w : Int) (n_ : Int) : Option Bool := evF cx n 80 ((t, now, w, n_, ()) : El (cx.arg 80))
noncomputable def cell_Merge (n : Nat) (a : TCell) (b : TCell) : Option (TCell × Int) := evF cx n 81 ((a, b, ()) : El (cx.arg 81))
noncomputable def cell_one (n : Nat) (e : TEvent) : Option TCell := evF cx n 82 ((e, ()) : El (cx.arg 82))
noncomputable def conf_Size (n : Nat) (c : TConfig) : Option (Int × Int) := evF cx n 83 ((c, ()) : El (cx.arg 83))
noncomputable def state_open (n : Nat) (s : TState) : Option (TState × Int) := evF cx n 84 ((s, ()) : El (cx.arg 84))
noncomputable def state_view_clock (n : Nat) (v : TState) : Option Bool := evF cx n 85 ((v, ()) : El (cx.arg 85))
noncomputable def state_view_place (n : Nat) (v : TState) (is : ((Int × Unit) → Option Bool)) : Option Int := evF cx n 86 ((v, is, ()) : El (cx.arg 86))
noncomputable def state_Check_1 (n : Nat) (i : Int) (p1 : TState) : Option Bool := evF cx n 87 ((i, p1, ()) : El (cx.arg 87))
noncomputable def state_view_right (n : Nat) (v : TState) (i : Int) : Option Bool := evF cx n 88 ((v, i, ()) : El (cx.arg 88))
noncomputable def r17_whole (n : Nat) (s : TState) : Option Bool := evF cx n 89 ((s, ()) : El (cx.arg 89))
noncomputable def r17_time (n : Nat) (t : Int) : Option Bool := evF cx n 90 ((t, ()) : El (cx.arg 90))
noncomputable def r17_Mark (n : Nat) (s : TState) : Option Int := evF cx n 91 ((s, ()) : El (cx.arg 91))
noncomputable def r17_Empty (n : Nat) (s : TSeries) : Option Bool := evF cx n 92 ((s, ()) : El (cx.arg 92))
noncomputable def r17_lives (n : Nat) (s : TState) (i : Int) : Option Bool := evF cx n 93 ((s, i, ()) : El (cx.arg 93))
noncomputable def window_Of (n : Nat) (t : Int) (w : Int) : Option (Int × Int) := evF cx n 94 ((t, w, ()) : El (cx.arg 94))
noncomputable def window_in_int (n : Nat) (n_ : Int) (low : Int) (high : Int) : Option Bool := evF cx n 95 ((n_, low, high, ()) : El (cx.arg 95))
noncomputable def r09_width (n : Nat) (w : Int) : Option Bool := evF cx n 96 ((w, ()) : El (cx.arg 96))
noncomputable def fold_Check (n : Nat) (c : TConfig) (s : ((List TSlot) × ((List TSlot) × (List TSlot)))) : Option Int := evF cx n 97 ((c, s, ()) : El (cx.arg 97))
noncomputable def raw_Check (n : Nat) (r : (Int × (Int × (List TEvent)))) (room : Int) : Option Int := evF cx n 98 ((r, room, ()) : El (cx.arg 98))
noncomputable def series_kept_fresh (n : Nat) (s : Tseries_kept) : Option Bool := evF cx n 99 ((s, ()) : El (cx.arg 99))
noncomputable def series_kept_ends (n : Nat) (s : Tseries_kept) : Option Bool := evF cx n 100 ((s, ()) : El (cx.arg 100))
noncomputable def fold_Close (n : Nat) (c : TConfig) (s : ((List TSlot) × ((List TSlot) × (List TSlot)))) (was : TSlot) (j : Int) : Option (((List TSlot) × ((List TSlot) × (List TSlot))) × Int) := evF cx n 101 ((c, s, was, j, ()) : El (cx.arg 101))
noncomputable def raw_Put (n : Nat) (r : (Int × (Int × (List TEvent)))) (room : Int) (e : TEvent) : Option ((Int × (Int × (List TEvent))) × Int) := evF cx n 102 ((r, room, e, ()) : El (cx.arg 102))
noncomputable def cell_Add (n : Nat) (c : TCell) (e : TEvent) : Option (TCell × Int) := evF cx n 103 ((c, e, ()) : El (cx.arg 103))
noncomputable def r14_begins (n : Nat) (i : Int) (w : Int) : Option Bool := evF cx n 104 ((i, w, ()) : El (cx.arg 104))
noncomputable def r13_Put (n : Nat) (l : (List TSlot)) (w : Int) (i : Int) (c : TCell) : Option ((List TSlot) × Int) := evF cx n 105 ((l, w, i, c, ()) : El (cx.arg 105))
noncomputable def r14_up (n : Nat) (c : TConfig) (s : ((List TSlot) × ((List TSlot) × (List TSlot)))) (i : Int) (j : Int) : Option ((List TSlot) × ((List TSlot) × (List TSlot))) := evF cx n 106 ((c, s, i, j, ()) : El (cx.arg 106))
noncomputable def r08_Of (n : Nat) (l : (List TEvent)) : Option (TCell × Int) := evF cx n 107 ((l, ()) : El (cx.arg 107))
noncomputable def tier_Fold (n : Nat) (l : (List TSlot)) (i : Int) (k : Int) : Option (TCell × Int) := evF cx n 108 ((l, i, k, ()) : El (cx.arg 108))
noncomputable def window_Slot (n : Nat) (i : Int) (n_ : Int) : Option Int := evF cx n 109 ((i, n_, ()) : El (cx.arg 109))
noncomputable def r13_Get (n : Nat) (l : (List TSlot)) (i : Int) : Option TCell := evF cx n 110 ((l, i, ()) : El (cx.arg 110))
noncomputable def r10_Factor (n : Nat) (c : TConfig) (tier : Int) : Option Int := evF cx n 111 ((c, tier, ()) : El (cx.arg 111))
noncomputable def r08_All (n : Nat) (l : (List TCell)) : Option (TCell × Int) := evF cx n 112 ((l, ()) : El (cx.arg 112))
noncomputable def r08_Check (n : Nat) (c : TCell) : Option Int := evF cx n 113 ((c, ()) : El (cx.arg 113))
noncomputable def r07_Between (n : Nat) (p : TEvent) (c : TEvent) : Option (TCell × Int) := evF cx n 114 ((p, c, ()) : El (cx.arg 114))
noncomputable def r01_Sum (n : Nat) (l : (List (Int × Int))) : Option ((Int × Int) × Int) := evF cx n 115 ((l, ()) : El (cx.arg 115))
noncomputable def r10_place (n : Nat) (c : TConfig) : Option Int := evF cx n 116 ((c, ()) : El (cx.arg 116))
noncomputable def r05_name (n : Nat) (s : List UInt8) : Option Bool := evF cx n 117 ((s, ()) : El (cx.arg 117))
noncomputable def r13_Check (n : Nat) (l : (List TSlot)) (w : Int) : Option Int := evF cx n 118 ((l, w, ()) : El (cx.arg 118))
noncomputable def r13_Same (n : Nat) (a : (List TSlot)) (b : (List TSlot)) : Option Bool := evF cx n 119 ((a, b, ()) : El (cx.arg 119))
noncomputable def conf_in_int (n : Nat) (n_ : Int) (low : Int) (high : Int) : Option Bool := evF cx n 120 ((n_, low, high, ()) : El (cx.arg 120))
noncomputable def conf_in_int64 (n : Nat) (n_ : Int) (low : Int) (high : Int) : Option Bool := evF cx n 121 ((n_, low, high, ()) : El (cx.arg 121))
noncomputable def conf_place (n : Nat) (c : TConfig) : Option Int := evF cx n 122 ((c, ()) : El (cx.arg 122))
noncomputable def label_name (n : Nat) (s : List UInt8) : Option Bool := evF cx n 123 ((s, ()) : El (cx.arg 123))
noncomputable def tier_New (n : Nat) (n_ : Int) : Option (List TSlot) := evF cx n 124 ((n_, ()) : El (cx.arg 124))
noncomputable def r13_New (n : Nat) (n_ : Int) : Option (List TSlot) := evF cx n 125 ((n_, ()) : El (cx.arg 125))
noncomputable def slices_Equal_Label (n : Nat) (s1 : (List (List UInt8 × List UInt8))) (s2 : (List (List UInt8 × List UInt8))) : Option Bool := evF cx n 126 ((s1, s2, ()) : El (cx.arg 126))
noncomputable def slices_Equal_Event (n : Nat) (s1 : (List TEvent)) (s2 : (List TEvent)) : Option Bool := evF cx n 127 ((s1, s2, ()) : El (cx.arg 127))
noncomputable def cell_Check (n : Nat) (c : TCell) : Option Int := evF cx n 128 ((c, ()) : El (cx.arg 128))
noncomputable def cell_none (n : Nat) (c : TCell) : Option Bool := evF cx n 129 ((c, ()) : El (cx.arg 129))
noncomputable def cell_join (n : Nat) (a : TCell) (b : TCell) : Option (TCell × Int) := evF cx n 130 ((a, b, ()) : El (cx.arg 130))
noncomputable def conf_Home (n : Nat) (c : TConfig) : Option Int := evF cx n 131 ((c, ()) : El (cx.arg 131))
noncomputable def conf_Place (n : Nat) (c : TConfig) : Option Int := evF cx n 132 ((c, ()) : El (cx.arg 132))
noncomputable def state_time (n : Nat) (t : Int) : Option Bool := evF cx n 133 ((t, ()) : El (cx.arg 133))
noncomputable def state_empty (n : Nat) (s : TSeries) : Option Bool := evF cx n 134 ((s, ()) : El (cx.arg 134))
noncomputable def state_view_mark (n : Nat) (v : TState) : Option Int := evF cx n 135 ((v, ()) : El (cx.arg 135))
noncomputable def state_view_twin (n : Nat) (v : TState) (i : Int) : Option Bool := evF cx n 136 ((v, i, ()) : El (cx.arg 136))
noncomputable def window_in_int64 (n : Nat) (n_ : Int) (low : Int) (high : Int) : Option Bool := evF cx n 137 ((n_, low, high, ()) : El (cx.arg 137))
noncomputable def window_width (n : Nat) (w : Int) : Option Bool := evF cx n 138 ((w, ()) : El (cx.arg 138))
noncomputable def fold_open (n : Nat) (c : TConfig) (s : ((List TSlot) × ((List TSlot) × (List TSlot)))) : Option ((Option Tfold_stack) × Int) := evF cx n 139 ((c, s, ()) : El (cx.arg 139))
noncomputable def raw_rising (n : Nat) (l : (List TEvent)) : Option Bool := evF cx n 140 ((l, ()) : El (cx.arg 140))
noncomputable def raw_marked (n : Nat) (r : (Int × (Int × (List TEvent)))) (room : Int) : Option Bool := evF cx n 141 ((r, room, ()) : El (cx.arg 141))
noncomputable def series_behind (n : Nat) (l : (List TSlot)) (i : Int) : Option Bool := evF cx n 142 ((l, i, ()) : El (cx.arg 142))
noncomputable def raw_Last (n : Nat) (r : (Int × (Int × (List TEvent)))) : Option (TEvent × Int) := evF cx n 143 ((r, ()) : El (cx.arg 143))
noncomputable def tier_Fits (n : Nat) (c : TCell) (w : Int) (i : Int) : Option Bool := evF cx n 144 ((c, w, i, ()) : El (cx.arg 144))
noncomputable def fold_stack_begins (n : Nat) (s : Tfold_stack) (k : Int) (i : Int) : Option (Bool × Tfold_stack) := evF cx n 145 ((s, k, i, ()) : El (cx.arg 145))
noncomputable def fold_stack_put (n : Nat) (s : Tfold_stack) (k : Int) (i : Int) (c : TCell) : Option (Int × Tfold_stack) := evF cx n 146 ((s, k, i, c, ()) : El (cx.arg 146))
noncomputable def fold_stack_up (n : Nat) (s : Tfold_stack) (i : Int) (j : Int) : Option Tfold_stack := evF cx n 147 ((s, i, j, ()) : El (cx.arg 147))
noncomputable def event_Follow (n : Nat) (p : TEvent) (c : TEvent) : Option Bool := evF cx n 148 ((p, c, ()) : El (cx.arg 148))
noncomputable def raw_open (n : Nat) (l : (List TEvent)) (room : Int) : Option ((Option TEvent_) × Int) := evF cx n 149 ((l, room, ()) : El (cx.arg 149))
noncomputable def ring_Ring_Event_Put (n : Nat) (r : TEvent_) (x : TEvent) : Option (TEvent × (Bool × TEvent_)) := evF cx n 150 ((r, x, ()) : El (cx.arg 150))
noncomputable def ring_Ring_Event_All (n : Nat) (r : TEvent_) : Option ((List TEvent) × TEvent_) := evF cx n 151 ((r, ()) : El (cx.arg 151))
noncomputable def r09_Slot (n : Nat) (i : Int) (n_ : Int) : Option Int := evF cx n 152 ((i, n_, ()) : El (cx.arg 152))
noncomputable def r14_made (n : Nat) (c : TConfig) (s : ((List TSlot) × ((List TSlot) × (List TSlot)))) (k : Int) (i : Int) : Option (TCell × Int) := evF cx n 153 ((c, s, k, i, ()) : El (cx.arg 153))
noncomputable def r01_Add (n : Nat) (a : (Int × Int)) (b : (Int × Int)) : Option ((Int × Int) × Int) := evF cx n 154 ((a, b, ()) : El (cx.arg 154))
noncomputable def tier_All (n : Nat) (l : (List TSlot)) : Option (List TSlot) := evF cx n 155 ((l, ()) : El (cx.arg 155))
noncomputable def cell_All (n : Nat) (l : (List TCell)) : Option (TCell × Int) := evF cx n 156 ((l, ()) : El (cx.arg 156))
noncomputable def r01_Times (n : Nat) (a : (Int × Int)) (n_ : Int) : Option ((Int × Int) × Int) := evF cx n 157 ((a, n_, ()) : El (cx.arg 157))
noncomputable def r01_Less (n : Nat) (a : (Int × Int)) (b : (Int × Int)) : Option Bool := evF cx n 158 ((a, b, ()) : El (cx.arg 158))
noncomputable def r10_parts (n : Nat) (n_ : Int) (each : Int) : Option Int := evF cx n 159 ((n_, each, ()) : El (cx.arg 159))
noncomputable def conf_parts (n : Nat) (n_ : Int) (by_ : Int) : Option Int := evF cx n 160 ((n_, by_, ()) : El (cx.arg 160))
noncomputable def label_digit (n : Nat) (c : Int) : Option Bool := evF cx n 161 ((c, ()) : El (cx.arg 161))
noncomputable def slices_ContainsFunc_byte (n : Nat) (s : (List Int)) (f_ : ((Int × Unit) → Option Bool)) : Option Bool := evF cx n 162 ((s, f_, ()) : El (cx.arg 162))
noncomputable def label_name_1 (n : Nat) (c : Int) : Option Bool := evF cx n 163 ((c, ()) : El (cx.arg 163))
noncomputable def label_sign (n : Nat) (c : Int) : Option Bool := evF cx n 164 ((c, ()) : El (cx.arg 164))
noncomputable def cell_spans (n : Nat) (c : TCell) : Option Bool := evF cx n 165 ((c, ()) : El (cx.arg 165))
noncomputable def wide_Times (n : Nat) (a : (Int × Int)) (n_ : Int) : Option ((Int × Int) × Int) := evF cx n 166 ((a, n_, ()) : El (cx.arg 166))
noncomputable def wide_Of (n : Nat) (n_ : Int) : Option (Int × Int) := evF cx n 167 ((n_, ()) : El (cx.arg 167))
noncomputable def wide_Less (n : Nat) (a : (Int × Int)) (b : (Int × Int)) : Option Bool := evF cx n 168 ((a, b, ()) : El (cx.arg 168))
noncomputable def cell_in (n : Nat) (n_ : Int) (most : Int) : Option Bool := evF cx n 169 ((n_, most, ()) : El (cx.arg 169))
noncomputable def event_Between (n : Nat) (p : TEvent) (c : TEvent) : Option (TCell × Int) := evF cx n 170 ((p, c, ()) : El (cx.arg 170))
noncomputable def wide_Sum (n : Nat) (l : (List (Int × Int))) : Option ((Int × Int) × Int) := evF cx n 171 ((l, ()) : El (cx.arg 171))
noncomputable def conf_Index (n : Nat) (c : TConfig) : Option Int := evF cx n 172 ((c, ()) : El (cx.arg 172))
noncomputable def state_view_twin_1 (n : Nat) (k : Int) (p1 : Int) (p2 : TState) : Option Bool := evF cx n 173 ((k, p1, p2, ()) : El (cx.arg 173))
noncomputable def state_view_lives (n : Nat) (v : TState) (i : Int) : Option Bool := evF cx n 174 ((v, i, ()) : El (cx.arg 174))
noncomputable def tier_Check (n : Nat) (l : (List TSlot)) (w : Int) : Option Int := evF cx n 175 ((l, w, ()) : El (cx.arg 175))
noncomputable def slices_ContainsFunc_Slot (n : Nat) (s : (List TSlot)) (f_ : ((TSlot × Unit) → Option Bool)) : Option Bool := evF cx n 176 ((s, f_, ()) : El (cx.arg 176))
noncomputable def series_behind_1 (n : Nat) (s : TSlot) (p1 : Int) : Option Bool := evF cx n 177 ((s, p1, ()) : El (cx.arg 177))
noncomputable def tier_Put (n : Nat) (l : (List TSlot)) (w : Int) (i : Int) (c : TCell) : Option ((List TSlot) × Int) := evF cx n 178 ((l, w, i, c, ()) : El (cx.arg 178))
noncomputable def fold_stack_made (n : Nat) (s : Tfold_stack) (k : Int) (i : Int) : Option (TCell × (Int × Tfold_stack)) := evF cx n 179 ((s, k, i, ()) : El (cx.arg 179))
noncomputable def event_right (n : Nat) (l : (List TEvent)) : Option Bool := evF cx n 180 ((l, ()) : El (cx.arg 180))
noncomputable def ring_New_Event (n : Nat) (room : Int) : Option ((Option TEvent_) × Int) := evF cx n 181 ((room, ()) : El (cx.arg 181))
noncomputable def ring_Ring_Event_place (n : Nat) (r : TEvent_) (i : Int) : Option (Int × TEvent_) := evF cx n 182 ((r, i, ()) : El (cx.arg 182))
noncomputable def r01_Bytes (n : Nat) (a : (Int × Int)) : Option (Int × (Int × (Int × (Int × (Int × (Int × (Int × (Int × (Int × (Int × (Int × (Int × (Int × (Int × (Int × Int))))))))))))))) := evF cx n 183 ((a, ()) : El (cx.arg 183))
noncomputable def r01_Of (n : Nat) (l : (Int × (Int × (Int × (Int × (Int × (Int × (Int × (Int × (Int × (Int × (Int × (Int × (Int × (Int × (Int × Int)))))))))))))))) : Option (Int × Int) := evF cx n 184 ((l, ()) : El (cx.arg 184))
noncomputable def slices_DeleteFunc_Slot (n : Nat) (s : (List TSlot)) (del : ((TSlot × Unit) → Option Bool)) : Option (List TSlot) := evF cx n 185 ((s, del, ()) : El (cx.arg 185))
noncomputable def slices_Clone_Slot (n : Nat) (s : (List TSlot)) : Option (List TSlot) := evF cx n 186 ((s, ()) : El (cx.arg 186))
noncomputable def tier_none (n : Nat) (s : TSlot) : Option Bool := evF cx n 187 ((s, ()) : El (cx.arg 187))
noncomputable def slices_SortStableFunc_Slot (n : Nat) (x : (List TSlot)) (cmp : ((TSlot × (TSlot × Unit)) → Option Int)) : Option (List TSlot) := evF cx n 188 ((x, cmp, ()) : El (cx.arg 188))
noncomputable def tier_All_1 (n : Nat) (a : TSlot) (b : TSlot) : Option Int := evF cx n 189 ((a, b, ()) : El (cx.arg 189))
noncomputable def cmp_Compare_int64 (n : Nat) (x : Int) (y : Int) : Option Int := evF cx n 190 ((x, y, ()) : El (cx.arg 190))
noncomputable def slices_IndexFunc_byte (n : Nat) (s : (List Int)) (f_ : ((Int × Unit) → Option Bool)) : Option Int := evF cx n 191 ((s, f_, ()) : El (cx.arg 191))
noncomputable def math_bits_Mul64 (n : Nat) (x : Int) (y : Int) : Option (Int × Int) := evF cx n 192 ((x, y, ()) : El (cx.arg 192))
noncomputable def wide_sure (n : Nat) (a : (Int × Int)) (over : Int) : Option ((Int × Int) × Int) := evF cx n 194 ((a, over, ()) : El (cx.arg 194))
noncomputable def event_anew (n : Nat) (c : TEvent) (seen : Int) : Option TCell := evF cx n 195 ((c, seen, ()) : El (cx.arg 195))
noncomputable def wide_Add (n : Nat) (a : (Int × Int)) (b : (Int × Int)) : Option ((Int × Int) × Int) := evF cx n 196 ((a, b, ()) : El (cx.arg 196))
noncomputable def slices_IndexFunc_Slot (n : Nat) (s : (List TSlot)) (f_ : ((TSlot × Unit) → Option Bool)) : Option Int := evF cx n 197 ((s, f_, ()) : El (cx.arg 197))
noncomputable def slices_stableCmpFunc_Slot (n : Nat) (data : (List TSlot)) (n_ : Int) (cmp : ((TSlot × (TSlot × Unit)) → Option Int)) : Option (List TSlot) := evF cx n 198 ((data, n_, cmp, ()) : El (cx.arg 198))
noncomputable def cmp_isNaN_int64 (n : Nat) (x : Int) : Option Bool := evF cx n 199 ((x, ()) : El (cx.arg 199))
noncomputable def slices_insertionSortCmpFunc_Slot (n : Nat) (data : (List TSlot)) (a : Int) (b : Int) (cmp : ((TSlot × (TSlot × Unit)) → Option Int)) : Option (List TSlot) := evF cx n 200 ((data, a, b, cmp, ()) : El (cx.arg 200))
noncomputable def slices_symMergeCmpFunc_Slot (n : Nat) (data : (List TSlot)) (a : Int) (m : Int) (b : Int) (cmp : ((TSlot × (TSlot × Unit)) → Option Int)) : Option (List TSlot) := evF cx n 201 ((data, a, m, b, cmp, ()) : El (cx.arg 201))
noncomputable def slices_rotateCmpFunc_Slot (n : Nat) (data : (List TSlot)) (a : Int) (m : Int) (b : Int) (cmp : ((TSlot × (TSlot × Unit)) → Option Int)) : Option (List TSlot) := evF cx n 202 ((data, a, m, b, cmp, ()) : El (cx.arg 202))
noncomputable def slices_swapRangeCmpFunc_Slot (n : Nat) (data : (List TSlot)) (a : Int) (b : Int) (n_ : Int) (cmp : ((TSlot × (TSlot × Unit)) → Option Int)) : Option (List TSlot) := evF cx n 203 ((data, a, b, n_, cmp, ()) : El (cx.arg 203))



noncomputable def l17_Small_l4 (n f : Nat) (x : ((List TSeries) × (Int × (Int × Unit)))) : Option (Unit ⊕ Int) := runLoop cx (evF cx n) 8 4 f x







noncomputable def r17_Same_l4 (n f : Nat) (x : (TState × (TState × (Int × (Int × Unit))))) : Option (Unit ⊕ Bool) := runLoop cx (evF cx n) 16 4 f x

noncomputable def cascade_Steps_l5 (n f : Nat) (x : (TState × ((Int × (Int × Int)) × ((Int × (Int × Int)) × (TState × ((Int × (Int × Int)) × (Int × Unit))))))) : Option (((Int × (Int × Int)) × ((Int × (Int × Int)) × Unit)) ⊕ (Int × (Int × Int))) := runLoop cx (evF cx n) 17 5 f x

noncomputable def r20_Steps_l6 (n f : Nat) (x : (TState × ((Int × (Int × Int)) × ((Int × (Int × Int)) × (TState × (Int × Unit)))))) : Option (((Int × (Int × Int)) × ((Int × (Int × Int)) × Unit)) ⊕ (Int × (Int × Int))) := runLoop cx (evF cx n) 18 6 f x









noncomputable def r15_Check_l7 (n f : Nat) (x : (TSeries × (Int × Unit))) : Option (Unit ⊕ Int) := runLoop cx (evF cx n) 28 7 f x
noncomputable def r15_Check_l16 (n f : Nat) (x : (TConfig × (TSeries × (Int × Unit)))) : Option (Unit ⊕ Int) := runLoop cx (evF cx n) 28 16 f x
noncomputable def r15_Check_l19 (n f : Nat) (x : (TConfig × (TSeries × (Int × ((List TSlot) × (Int × (Int × Unit))))))) : Option ((TConfig × (TSeries × (Int × Unit))) ⊕ Int) := runLoop cx (evF cx n) 28 19 f x


noncomputable def l05_Small_l2 (n f : Nat) (x : ((List (List UInt8 × List UInt8)) × (Int × (Int × Unit)))) : Option (Unit ⊕ Int) := runLoop cx (evF cx n) 30 2 f x






noncomputable def cell_Of_l2 (n f : Nat) (x : ((List TEvent) × (TCell × ((List TEvent) × (Int × (Int × Unit)))))) : Option (((List TEvent) × (TCell × Unit)) ⊕ (TCell × Int)) := runLoop cx (evF cx n) 36 2 f x
noncomputable def cell_Of_l10 (n f : Nat) (x : (TCell × (TCell × ((List TEvent) × (Int × (Int × Unit)))))) : Option ((TCell × (TCell × Unit)) ⊕ (TCell × Int)) := runLoop cx (evF cx n) 36 10 f x

noncomputable def r12_SameList_l4 (n f : Nat) (x : ((List TEvent) × ((List TEvent) × (Int × (Int × Unit))))) : Option (Unit ⊕ Bool) := runLoop cx (evF cx n) 37 4 f x




noncomputable def r17_Check_l5 (n f : Nat) (x : (TState × (Int × ((List TSeries) × (Int × (Int × Unit)))))) : Option (Unit ⊕ Int) := runLoop cx (evF cx n) 41 5 f x
noncomputable def r17_Check_l11 (n f : Nat) (x : (TState × (Int × (Int × (TSeries × ((List TSeries) × (Int × (Int × (Int × (Int × Unit)))))))))) : Option ((TState × (Int × ((List TSeries) × (Int × (Int × Unit))))) ⊕ Int) := runLoop cx (evF cx n) 41 11 f x





noncomputable def l14_Small_l2 (n f : Nat) (x : (((List TSlot) × ((List TSlot) × (List TSlot))) × (Int × Unit))) : Option (Unit ⊕ Int) := runLoop cx (evF cx n) 46 2 f x













noncomputable def r13_Fold_l5 (n f : Nat) (x : ((List TSlot) × (Int × (Int × (TCell × ((List TCell) × ((List TSlot) × (Int × (Int × Unit))))))))) : Option ((TCell × ((List TCell) × Unit)) ⊕ (TCell × Int)) := runLoop cx (evF cx n) 59 5 f x



noncomputable def r05_Check_l5 (n f : Nat) (x : ((List (List UInt8 × List UInt8)) × (Int × ((List (List UInt8 × List UInt8)) × (Int × (Int × Unit)))))) : Option ((Int × Unit) ⊕ Int) := runLoop cx (evF cx n) 62 5 f x

noncomputable def r12_Check_l4 (n f : Nat) (x : (Int × ((Int × (Int × (List TEvent))) × ((List TEvent) × (Int × (Int × Unit)))))) : Option ((Int × ((Int × (Int × (List TEvent))) × Unit)) ⊕ Int) := runLoop cx (evF cx n) 63 4 f x


noncomputable def r13_All_l3 (n f : Nat) (x : ((List TSlot) × ((List TSlot) × (Int × (Int × Unit))))) : Option (((List TSlot) × Unit) ⊕ (List TSlot)) := runLoop cx (evF cx n) 65 3 f x
noncomputable def r13_All_l7 (n f : Nat) (x : ((List TSlot) × (TSlot × (Int × ((List TSlot) × (Int × (Int × Unit))))))) : Option (((List TSlot) × (TSlot × (Int × ((List TSlot) × (Int × (Int × Unit)))))) ⊕ (List TSlot)) := runLoop cx (evF cx n) 65 7 f x



noncomputable def r05_Same_l4 (n f : Nat) (x : ((List (List UInt8 × List UInt8)) × ((List (List UInt8 × List UInt8)) × (Int × (Int × Unit))))) : Option (Unit ⊕ Bool) := runLoop cx (evF cx n) 68 4 f x




noncomputable def label_Check_l5 (n f : Nat) (x : ((List (List UInt8 × List UInt8)) × (Int × ((List (List UInt8 × List UInt8)) × (Int × (Int × Unit)))))) : Option (Unit ⊕ Int) := runLoop cx (evF cx n) 72 5 f x






noncomputable def slices_Equal_Slot_l4 (n f : Nat) (x : ((List TSlot) × ((List TSlot) × (Int × (Int × Unit))))) : Option (Unit ⊕ Bool) := runLoop cx (evF cx n) 78 4 f x








noncomputable def state_view_place_l2 (n f : Nat) (x : (((Int × Unit) → Option Bool) × (Int × (Int × Unit)))) : Option (Unit ⊕ Int) := runLoop cx (evF cx n) 86 2 f x




















noncomputable def r08_Of_l2 (n f : Nat) (x : ((List TEvent) × (TCell × ((List TEvent) × (Int × (Int × Unit)))))) : Option (((List TEvent) × (TCell × Unit)) ⊕ (TCell × Int)) := runLoop cx (evF cx n) 107 2 f x
noncomputable def r08_Of_l9 (n f : Nat) (x : ((List TEvent) × (TCell × (TCell × ((List TEvent) × (Int × (Int × Unit))))))) : Option ((TCell × (TCell × Unit)) ⊕ (TCell × Int)) := runLoop cx (evF cx n) 107 9 f x

noncomputable def tier_Fold_l5 (n f : Nat) (x : (Int × (Int × (TCell × ((List TCell) × ((List TSlot) × (Int × (Int × Unit)))))))) : Option ((TCell × ((List TCell) × Unit)) ⊕ (TCell × Int)) := runLoop cx (evF cx n) 108 5 f x




noncomputable def r08_All_l3 (n f : Nat) (x : (TCell × (TCell × ((List TCell) × (Int × (Int × Unit)))))) : Option ((TCell × (TCell × Unit)) ⊕ (TCell × Int)) := runLoop cx (evF cx n) 112 3 f x



noncomputable def r01_Sum_l3 (n f : Nat) (x : ((Int × Int) × ((Int × Int) × ((List (Int × Int)) × (Int × (Int × Unit)))))) : Option (((Int × Int) × ((Int × Int) × Unit)) ⊕ ((Int × Int) × Int)) := runLoop cx (evF cx n) 115 3 f x


noncomputable def r05_name_l4 (n f : Nat) (x : (List UInt8 × (Int × Unit))) : Option (Unit ⊕ Bool) := runLoop cx (evF cx n) 117 4 f x

noncomputable def r13_Check_l4 (n f : Nat) (x : ((List TSlot) × (Int × ((List TSlot) × (Int × (Int × Unit)))))) : Option (Unit ⊕ Int) := runLoop cx (evF cx n) 118 4 f x

noncomputable def r13_Same_l4 (n f : Nat) (x : ((List TSlot) × ((List TSlot) × (Int × (Int × Unit))))) : Option (Unit ⊕ Bool) := runLoop cx (evF cx n) 119 4 f x







noncomputable def slices_Equal_Label_l4 (n f : Nat) (x : ((List (List UInt8 × List UInt8)) × ((List (List UInt8 × List UInt8)) × (Int × (Int × Unit))))) : Option (Unit ⊕ Bool) := runLoop cx (evF cx n) 126 4 f x

noncomputable def slices_Equal_Event_l4 (n f : Nat) (x : ((List TEvent) × ((List TEvent) × (Int × (Int × Unit))))) : Option (Unit ⊕ Bool) := runLoop cx (evF cx n) 127 4 f x













noncomputable def raw_rising_l2 (n f : Nat) (x : ((List TEvent) × ((List TEvent) × (Int × (Int × Unit))))) : Option (Unit ⊕ Bool) := runLoop cx (evF cx n) 140 2 f x




noncomputable def tier_Fits_l4 (n f : Nat) (x : (Int × (Int × ((Int × Int) × (Int × Unit))))) : Option (Unit ⊕ Bool) := runLoop cx (evF cx n) 144 4 f x





noncomputable def raw_open_l5 (n f : Nat) (x : (TEvent_ × ((List TEvent) × (Int × (Int × Unit))))) : Option ((TEvent_ × Unit) ⊕ ((Option TEvent_) × Int)) := runLoop cx (evF cx n) 149 5 f x







noncomputable def cell_All_l3 (n f : Nat) (x : (TCell × (TCell × ((List TCell) × (Int × (Int × Unit)))))) : Option ((TCell × (TCell × Unit)) ⊕ (TCell × Int)) := runLoop cx (evF cx n) 156 3 f x

noncomputable def r01_Times_l4 (n f : Nat) (x : (Int × ((Int × Int) × ((Int × Int) × ((Int × Int) × (Bool × Unit)))))) : Option (((Int × Int) × ((Int × Int) × Unit)) ⊕ ((Int × Int) × Int)) := runLoop cx (evF cx n) 157 4 f x


noncomputable def r10_parts_l2 (n f : Nat) (x : (Int × (Int × (Int × Unit)))) : Option ((Int × Unit) ⊕ Int) := runLoop cx (evF cx n) 159 2 f x












noncomputable def wide_Sum_l3 (n f : Nat) (x : ((Int × Int) × ((Int × Int) × ((List (Int × Int)) × (Int × (Int × Unit)))))) : Option (((Int × Int) × ((Int × Int) × Unit)) ⊕ ((Int × Int) × Int)) := runLoop cx (evF cx n) 171 3 f x



noncomputable def tier_Check_l4 (n f : Nat) (x : ((List TSlot) × (Int × ((List TSlot) × (Int × (Int × Unit)))))) : Option (Unit ⊕ Int) := runLoop cx (evF cx n) 175 4 f x





noncomputable def event_right_l2 (n f : Nat) (x : ((List TEvent) × (Int × (Int × Unit)))) : Option (Unit ⊕ Bool) := runLoop cx (evF cx n) 180 2 f x





noncomputable def slices_DeleteFunc_Slot_l5 (n f : Nat) (x : ((List TSlot) × (((TSlot × Unit) → Option Bool) × (Int × (Int × Unit))))) : Option (((List TSlot) × (Int × Unit)) ⊕ (List TSlot)) := runLoop cx (evF cx n) 185 5 f x






noncomputable def slices_IndexFunc_byte_l2 (n f : Nat) (x : ((List Int) × (((Int × Unit) → Option Bool) × (Int × (Int × Unit))))) : Option (Unit ⊕ Int) := runLoop cx (evF cx n) 191 2 f x





noncomputable def slices_IndexFunc_Slot_l2 (n f : Nat) (x : ((List TSlot) × (((TSlot × Unit) → Option Bool) × (Int × (Int × Unit))))) : Option (Unit ⊕ Int) := runLoop cx (evF cx n) 197 2 f x

noncomputable def slices_stableCmpFunc_Slot_l2 (n f : Nat) (x : ((List TSlot) × (Int × (((TSlot × (TSlot × Unit)) → Option Int) × (Int × (Int × (Int × Unit))))))) : Option (((List TSlot) × (Int × (((TSlot × (TSlot × Unit)) → Option Int) × (Int × (Int × Unit))))) ⊕ (List TSlot)) := runLoop cx (evF cx n) 198 2 f x
noncomputable def slices_stableCmpFunc_Slot_l7 (n f : Nat) (x : ((List TSlot) × (Int × (((TSlot × (TSlot × Unit)) → Option Int) × (Int × Unit))))) : Option (((List TSlot) × Unit) ⊕ (List TSlot)) := runLoop cx (evF cx n) 198 7 f x
noncomputable def slices_stableCmpFunc_Slot_l9 (n f : Nat) (x : ((List TSlot) × (Int × (((TSlot × (TSlot × Unit)) → Option Int) × (Int × (Int × (Int × Unit))))))) : Option (((List TSlot) × (Int × (((TSlot × (TSlot × Unit)) → Option Int) × (Int × (Int × Unit))))) ⊕ (List TSlot)) := runLoop cx (evF cx n) 198 9 f x


noncomputable def slices_insertionSortCmpFunc_Slot_l1 (n f : Nat) (x : ((List TSlot) × (Int × (Int × (((TSlot × (TSlot × Unit)) → Option Int) × (Int × Unit)))))) : Option (((List TSlot) × Unit) ⊕ (List TSlot)) := runLoop cx (evF cx n) 200 1 f x
noncomputable def slices_insertionSortCmpFunc_Slot_l4 (n f : Nat) (x : ((List TSlot) × (Int × (Int × (((TSlot × (TSlot × Unit)) → Option Int) × (Int × (Int × Unit))))))) : Option (((List TSlot) × (Int × (Int × (((TSlot × (TSlot × Unit)) → Option Int) × (Int × Unit))))) ⊕ (List TSlot)) := runLoop cx (evF cx n) 200 4 f x

noncomputable def slices_symMergeCmpFunc_Slot_l3 (n f : Nat) (x : ((List TSlot) × (Int × (((TSlot × (TSlot × Unit)) → Option Int) × (Int × (Int × Unit)))))) : Option (((List TSlot) × (Int × (Int × Unit))) ⊕ (List TSlot)) := runLoop cx (evF cx n) 201 3 f x
noncomputable def slices_symMergeCmpFunc_Slot_l9 (n f : Nat) (x : ((List TSlot) × (Int × (Int × Unit)))) : Option (((List TSlot) × Unit) ⊕ (List TSlot)) := runLoop cx (evF cx n) 201 9 f x
noncomputable def slices_symMergeCmpFunc_Slot_l15 (n f : Nat) (x : ((List TSlot) × (Int × (((TSlot × (TSlot × Unit)) → Option Int) × (Int × (Int × Unit)))))) : Option (((List TSlot) × (Int × (Int × Unit))) ⊕ (List TSlot)) := runLoop cx (evF cx n) 201 15 f x
noncomputable def slices_symMergeCmpFunc_Slot_l21 (n f : Nat) (x : ((List TSlot) × (Int × (Int × Unit)))) : Option (((List TSlot) × Unit) ⊕ (List TSlot)) := runLoop cx (evF cx n) 201 21 f x
noncomputable def slices_symMergeCmpFunc_Slot_l33 (n f : Nat) (x : ((List TSlot) × (Int × (Int × (Int × (((TSlot × (TSlot × Unit)) → Option Int) × (Int × (Int × (Int × (Int × (Int × Unit))))))))))) : Option (((List TSlot) × (Int × (Int × (Int × (((TSlot × (TSlot × Unit)) → Option Int) × (Int × (Int × (Int × Unit)))))))) ⊕ (List TSlot)) := runLoop cx (evF cx n) 201 33 f x

noncomputable def slices_rotateCmpFunc_Slot_l2 (n f : Nat) (x : ((List TSlot) × (Int × (((TSlot × (TSlot × Unit)) → Option Int) × (Int × (Int × Unit)))))) : Option (((List TSlot) × (Int × (((TSlot × (TSlot × Unit)) → Option Int) × (Int × Unit)))) ⊕ (List TSlot)) := runLoop cx (evF cx n) 202 2 f x

noncomputable def slices_swapRangeCmpFunc_Slot_l1 (n f : Nat) (x : ((List TSlot) × (Int × (Int × (Int × (Int × Unit)))))) : Option (((List TSlot) × Unit) ⊕ (List TSlot)) := runLoop cx (evF cx n) 203 1 f x

end Go.Proofs.YtapadkjknnfifaaGreat
