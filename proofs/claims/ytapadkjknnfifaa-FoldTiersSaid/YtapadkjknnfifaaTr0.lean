/-
  The functions of this seat, as the flat reading has them. Printed by program.
-/
import Derived.Test.YtapadkjknnfifaaCx
import Derived.KernelRfl
set_option linter.unusedVariables false
namespace Go.Proofs.Ytapadkjknnfifaa
open Go.Flat
abbrev Truntime_boundsError := (Int × (Int × (Bool × Int)))
abbrev TEvent := (Int × (Int × (Int × Bool)))
abbrev TConfig := (Int × ((Int × (Int × Int)) × ((Int × (Int × Int)) × (Int × Int))))
abbrev TCell := (Int × (TEvent × (TEvent × ((Int × Int) × (Int × (Int × Int))))))
abbrev TSlot := (Int × TCell)
abbrev Tfold_stack := (TConfig × ((List TSlot) × ((List TSlot) × (List TSlot))))
noncomputable def l13_TierFolds (n : Nat) (l : (List TSlot)) (w : Int) (i : Int) (k : Int) : Option Bool := evF cx n 3 ((l, w, i, k, ()) : El (cx.arg 3))
noncomputable def l13_TierLast (n : Nat) (n_ : Int) (w : Int) (l : (List TEvent)) (from_ : Int) : Option Bool := evF cx n 4 ((n_, w, l, from_, ()) : El (cx.arg 4))
noncomputable def l14_FoldTells (n : Nat) (c : TConfig) (s : ((List TSlot) × ((List TSlot) × (List TSlot)))) (k : Int) (i : Int) (j : Int) (open_ : TSlot) : Option Bool := evF cx n 5 ((c, s, k, i, j, open_, ()) : El (cx.arg 5))
noncomputable def l14_FoldTiers (n : Nat) (c : TConfig) (l : (List TEvent)) : Option Bool := evF cx n 6 ((c, l, ()) : El (cx.arg 6))
noncomputable def r13_Check (n : Nat) (l : (List TSlot)) (w : Int) : Option Int := evF cx n 7 ((l, w, ()) : El (cx.arg 7))
noncomputable def l13_lives (n : Nat)  : Option Bool := evF cx n 8 (() : El (cx.arg 8))
noncomputable def tier_Fold (n : Nat) (l : (List TSlot)) (i : Int) (k : Int) : Option (TCell × Int) := evF cx n 9 ((l, i, k, ()) : El (cx.arg 9))
noncomputable def r13_Fold (n : Nat) (l : (List TSlot)) (i : Int) (k : Int) : Option (TCell × Int) := evF cx n 10 ((l, i, k, ()) : El (cx.arg 10))
noncomputable def cell_Of (n : Nat) (l : (List TEvent)) : Option (TCell × Int) := evF cx n 11 ((l, ()) : El (cx.arg 11))
noncomputable def tier_New (n : Nat) (n_ : Int) : Option (List TSlot) := evF cx n 12 ((n_, ()) : El (cx.arg 12))
noncomputable def cell_Add (n : Nat) (c : TCell) (e : TEvent) : Option (TCell × Int) := evF cx n 13 ((c, e, ()) : El (cx.arg 13))
noncomputable def tier_Get (n : Nat) (l : (List TSlot)) (i : Int) : Option TCell := evF cx n 14 ((l, i, ()) : El (cx.arg 14))
noncomputable def tier_Put (n : Nat) (l : (List TSlot)) (w : Int) (i : Int) (c : TCell) : Option ((List TSlot) × Int) := evF cx n 15 ((l, w, i, c, ()) : El (cx.arg 15))
noncomputable def tier_Check (n : Nat) (l : (List TSlot)) (w : Int) : Option Int := evF cx n 16 ((l, w, ()) : El (cx.arg 16))
noncomputable def l14_Small (n : Nat) (s : ((List TSlot) × ((List TSlot) × (List TSlot)))) : Option Int := evF cx n 17 ((s, ()) : El (cx.arg 17))
noncomputable def l14_lives (n : Nat)  : Option Bool := evF cx n 18 (() : El (cx.arg 18))
noncomputable def fold_Made (n : Nat) (c : TConfig) (s : ((List TSlot) × ((List TSlot) × (List TSlot)))) (k : Int) (i : Int) : Option (TCell × Int) := evF cx n 19 ((c, s, k, i, ()) : El (cx.arg 19))
noncomputable def r14_Made (n : Nat) (c : TConfig) (s : ((List TSlot) × ((List TSlot) × (List TSlot)))) (k : Int) (i : Int) : Option (TCell × Int) := evF cx n 20 ((c, s, k, i, ()) : El (cx.arg 20))
noncomputable def fold_Up (n : Nat) (c : TConfig) (s : ((List TSlot) × ((List TSlot) × (List TSlot)))) (i : Int) (j : Int) : Option (((List TSlot) × ((List TSlot) × (List TSlot))) × Int) := evF cx n 21 ((c, s, i, j, ()) : El (cx.arg 21))
noncomputable def r14_Up (n : Nat) (c : TConfig) (s : ((List TSlot) × ((List TSlot) × (List TSlot)))) (i : Int) (j : Int) : Option (((List TSlot) × ((List TSlot) × (List TSlot))) × Int) := evF cx n 22 ((c, s, i, j, ()) : El (cx.arg 22))
noncomputable def fold_Close (n : Nat) (c : TConfig) (s : ((List TSlot) × ((List TSlot) × (List TSlot)))) (was : TSlot) (j : Int) : Option (((List TSlot) × ((List TSlot) × (List TSlot))) × Int) := evF cx n 23 ((c, s, was, j, ()) : El (cx.arg 23))
noncomputable def r14_Close (n : Nat) (c : TConfig) (s : ((List TSlot) × ((List TSlot) × (List TSlot)))) (open_ : TSlot) (j : Int) : Option (((List TSlot) × ((List TSlot) × (List TSlot))) × Int) := evF cx n 24 ((c, s, open_, j, ()) : El (cx.arg 24))
noncomputable def fold_Check (n : Nat) (c : TConfig) (s : ((List TSlot) × ((List TSlot) × (List TSlot)))) : Option Int := evF cx n 25 ((c, s, ()) : El (cx.arg 25))
noncomputable def r14_Check (n : Nat) (c : TConfig) (s : ((List TSlot) × ((List TSlot) × (List TSlot)))) : Option Int := evF cx n 26 ((c, s, ()) : El (cx.arg 26))
noncomputable def r14_Same (n : Nat) (a : ((List TSlot) × ((List TSlot) × (List TSlot)))) (b : ((List TSlot) × ((List TSlot) × (List TSlot)))) : Option Bool := evF cx n 27 ((a, b, ()) : El (cx.arg 27))
noncomputable def fold_Empty (n : Nat) (c : TConfig) : Option ((List TSlot) × ((List TSlot) × (List TSlot))) := evF cx n 28 ((c, ()) : El (cx.arg 28))
noncomputable def r14_Empty (n : Nat) (c : TConfig) : Option ((List TSlot) × ((List TSlot) × (List TSlot))) := evF cx n 29 ((c, ()) : El (cx.arg 29))
noncomputable def r13_Fits (n : Nat) (c : TCell) (w : Int) (i : Int) : Option Bool := evF cx n 30 ((c, w, i, ()) : El (cx.arg 30))
noncomputable def r09_Slot (n : Nat) (i : Int) (n_ : Int) : Option Int := evF cx n 31 ((i, n_, ()) : El (cx.arg 31))
noncomputable def l13_one (n : Nat) (t : Int) : Option TCell := evF cx n 32 ((t, ()) : El (cx.arg 32))
noncomputable def tier_All (n : Nat) (l : (List TSlot)) : Option (List TSlot) := evF cx n 33 ((l, ()) : El (cx.arg 33))
noncomputable def tier_Fits (n : Nat) (c : TCell) (w : Int) (i : Int) : Option Bool := evF cx n 34 ((c, w, i, ()) : El (cx.arg 34))
noncomputable def cell_All (n : Nat) (l : (List TCell)) : Option (TCell × Int) := evF cx n 35 ((l, ()) : El (cx.arg 35))
noncomputable def r13_All (n : Nat) (l : (List TSlot)) : Option (List TSlot) := evF cx n 36 ((l, ()) : El (cx.arg 36))
noncomputable def r13_Get (n : Nat) (l : (List TSlot)) (i : Int) : Option TCell := evF cx n 37 ((l, i, ()) : El (cx.arg 37))
noncomputable def r08_All (n : Nat) (l : (List TCell)) : Option (TCell × Int) := evF cx n 38 ((l, ()) : El (cx.arg 38))
noncomputable def event_Check (n : Nat) (e : TEvent) : Option Int := evF cx n 39 ((e, ()) : El (cx.arg 39))
noncomputable def cell_Merge (n : Nat) (a : TCell) (b : TCell) : Option (TCell × Int) := evF cx n 40 ((a, b, ()) : El (cx.arg 40))
noncomputable def cell_one (n : Nat) (e : TEvent) : Option TCell := evF cx n 41 ((e, ()) : El (cx.arg 41))
noncomputable def window_Slot (n : Nat) (i : Int) (n_ : Int) : Option Int := evF cx n 42 ((i, n_, ()) : El (cx.arg 42))
noncomputable def slices_Clone_Slot (n : Nat) (s : (List TSlot)) : Option (List TSlot) := evF cx n 43 ((s, ()) : El (cx.arg 43))
noncomputable def tier_none (n : Nat) (s : TSlot) : Option Bool := evF cx n 44 ((s, ()) : El (cx.arg 44))
noncomputable def l10_Fit (n : Nat)  : Option TConfig := evF cx n 45 (() : El (cx.arg 45))
noncomputable def l14_one (n : Nat) (t : Int) : Option TSlot := evF cx n 46 ((t, ()) : El (cx.arg 46))
noncomputable def fold_open (n : Nat) (c : TConfig) (s : ((List TSlot) × ((List TSlot) × (List TSlot)))) : Option ((Option Tfold_stack) × Int) := evF cx n 47 ((c, s, ()) : El (cx.arg 47))
noncomputable def fold_stack_begins (n : Nat) (s : Tfold_stack) (k : Int) (i : Int) : Option (Bool × Tfold_stack) := evF cx n 48 ((s, k, i, ()) : El (cx.arg 48))
noncomputable def fold_stack_made (n : Nat) (s : Tfold_stack) (k : Int) (i : Int) : Option (TCell × (Int × Tfold_stack)) := evF cx n 49 ((s, k, i, ()) : El (cx.arg 49))
noncomputable def r14_begins (n : Nat) (i : Int) (w : Int) : Option Bool := evF cx n 50 ((i, w, ()) : El (cx.arg 50))
noncomputable def r14_made (n : Nat) (c : TConfig) (s : ((List TSlot) × ((List TSlot) × (List TSlot)))) (k : Int) (i : Int) : Option (TCell × Int) := evF cx n 51 ((c, s, k, i, ()) : El (cx.arg 51))
noncomputable def fold_stack_up (n : Nat) (s : Tfold_stack) (i : Int) (j : Int) : Option Tfold_stack := evF cx n 52 ((s, i, j, ()) : El (cx.arg 52))
noncomputable def r14_up (n : Nat) (c : TConfig) (s : ((List TSlot) × ((List TSlot) × (List TSlot)))) (i : Int) (j : Int) : Option ((List TSlot) × ((List TSlot) × (List TSlot))) := evF cx n 53 ((c, s, i, j, ()) : El (cx.arg 53))
noncomputable def fold_stack_put (n : Nat) (s : Tfold_stack) (k : Int) (i : Int) (c : TCell) : Option (Int × Tfold_stack) := evF cx n 54 ((s, k, i, c, ()) : El (cx.arg 54))
noncomputable def r13_Put (n : Nat) (l : (List TSlot)) (w : Int) (i : Int) (c : TCell) : Option ((List TSlot) × Int) := evF cx n 55 ((l, w, i, c, ()) : El (cx.arg 55))
noncomputable def r10_Check (n : Nat) (c : TConfig) : Option Int := evF cx n 56 ((c, ()) : El (cx.arg 56))
noncomputable def r13_Same (n : Nat) (a : (List TSlot)) (b : (List TSlot)) : Option Bool := evF cx n 57 ((a, b, ()) : El (cx.arg 57))
noncomputable def conf_Check (n : Nat) (c : TConfig) : Option Int := evF cx n 58 ((c, ()) : El (cx.arg 58))
noncomputable def r13_New (n : Nat) (n_ : Int) : Option (List TSlot) := evF cx n 59 ((n_, ()) : El (cx.arg 59))
noncomputable def r08_Check (n : Nat) (c : TCell) : Option Int := evF cx n 60 ((c, ()) : El (cx.arg 60))
noncomputable def r09_Of (n : Nat) (t : Int) (w : Int) : Option (Int × Int) := evF cx n 61 ((t, w, ()) : El (cx.arg 61))
noncomputable def slices_DeleteFunc_Slot (n : Nat) (s : (List TSlot)) (del : ((TSlot × Unit) → Option Bool)) : Option (List TSlot) := evF cx n 62 ((s, del, ()) : El (cx.arg 62))
noncomputable def slices_SortStableFunc_Slot (n : Nat) (x : (List TSlot)) (cmp : ((TSlot × (TSlot × Unit)) → Option Int)) : Option (List TSlot) := evF cx n 63 ((x, cmp, ()) : El (cx.arg 63))
noncomputable def tier_All_1 (n : Nat) (a : TSlot) (b : TSlot) : Option Int := evF cx n 64 ((a, b, ()) : El (cx.arg 64))
noncomputable def cmp_Compare_int64 (n : Nat) (x : Int) (y : Int) : Option Int := evF cx n 65 ((x, y, ()) : El (cx.arg 65))
noncomputable def cell_Check (n : Nat) (c : TCell) : Option Int := evF cx n 66 ((c, ()) : El (cx.arg 66))
noncomputable def window_Of (n : Nat) (t : Int) (w : Int) : Option (Int × Int) := evF cx n 67 ((t, w, ()) : El (cx.arg 67))
noncomputable def r08_Merge (n : Nat) (a : TCell) (b : TCell) : Option (TCell × Int) := evF cx n 68 ((a, b, ()) : El (cx.arg 68))
noncomputable def cell_none (n : Nat) (c : TCell) : Option Bool := evF cx n 69 ((c, ()) : El (cx.arg 69))
noncomputable def cell_join (n : Nat) (a : TCell) (b : TCell) : Option (TCell × Int) := evF cx n 70 ((a, b, ()) : El (cx.arg 70))
noncomputable def r10_Factor (n : Nat) (c : TConfig) (tier : Int) : Option Int := evF cx n 71 ((c, tier, ()) : El (cx.arg 71))
noncomputable def r10_place (n : Nat) (c : TConfig) : Option Int := evF cx n 72 ((c, ()) : El (cx.arg 72))
noncomputable def conf_in_int (n : Nat) (n_ : Int) (low : Int) (high : Int) : Option Bool := evF cx n 73 ((n_, low, high, ()) : El (cx.arg 73))
noncomputable def conf_in_int64 (n : Nat) (n_ : Int) (low : Int) (high : Int) : Option Bool := evF cx n 74 ((n_, low, high, ()) : El (cx.arg 74))
noncomputable def conf_place (n : Nat) (c : TConfig) : Option Int := evF cx n 75 ((c, ()) : El (cx.arg 75))
noncomputable def r07_Check (n : Nat) (e : TEvent) : Option Int := evF cx n 76 ((e, ()) : El (cx.arg 76))
noncomputable def r01_Times (n : Nat) (a : (Int × Int)) (n_ : Int) : Option ((Int × Int) × Int) := evF cx n 77 ((a, n_, ()) : El (cx.arg 77))
noncomputable def r01_Less (n : Nat) (a : (Int × Int)) (b : (Int × Int)) : Option Bool := evF cx n 78 ((a, b, ()) : El (cx.arg 78))
noncomputable def r09_width (n : Nat) (w : Int) : Option Bool := evF cx n 79 ((w, ()) : El (cx.arg 79))
noncomputable def slices_IndexFunc_Slot (n : Nat) (s : (List TSlot)) (f_ : ((TSlot × Unit) → Option Bool)) : Option Int := evF cx n 80 ((s, f_, ()) : El (cx.arg 80))
noncomputable def slices_stableCmpFunc_Slot (n : Nat) (data : (List TSlot)) (n_ : Int) (cmp : ((TSlot × (TSlot × Unit)) → Option Int)) : Option (List TSlot) := evF cx n 81 ((data, n_, cmp, ()) : El (cx.arg 81))
noncomputable def cmp_isNaN_int64 (n : Nat) (x : Int) : Option Bool := evF cx n 82 ((x, ()) : El (cx.arg 82))
noncomputable def cell_spans (n : Nat) (c : TCell) : Option Bool := evF cx n 83 ((c, ()) : El (cx.arg 83))
noncomputable def wide_Times (n : Nat) (a : (Int × Int)) (n_ : Int) : Option ((Int × Int) × Int) := evF cx n 84 ((a, n_, ()) : El (cx.arg 84))
noncomputable def wide_Of (n : Nat) (n_ : Int) : Option (Int × Int) := evF cx n 85 ((n_, ()) : El (cx.arg 85))
noncomputable def wide_Less (n : Nat) (a : (Int × Int)) (b : (Int × Int)) : Option Bool := evF cx n 86 ((a, b, ()) : El (cx.arg 86))
noncomputable def cell_in (n : Nat) (n_ : Int) (most : Int) : Option Bool := evF cx n 87 ((n_, most, ()) : El (cx.arg 87))
noncomputable def window_in_int64 (n : Nat) (n_ : Int) (low : Int) (high : Int) : Option Bool := evF cx n 88 ((n_, low, high, ()) : El (cx.arg 88))
noncomputable def window_width (n : Nat) (w : Int) : Option Bool := evF cx n 89 ((w, ()) : El (cx.arg 89))
noncomputable def r07_Between (n : Nat) (p : TEvent) (c : TEvent) : Option (TCell × Int) := evF cx n 90 ((p, c, ()) : El (cx.arg 90))
noncomputable def r01_Sum (n : Nat) (l : (List (Int × Int))) : Option ((Int × Int) × Int) := evF cx n 91 ((l, ()) : El (cx.arg 91))
noncomputable def event_Between (n : Nat) (p : TEvent) (c : TEvent) : Option (TCell × Int) := evF cx n 92 ((p, c, ()) : El (cx.arg 92))
noncomputable def wide_Sum (n : Nat) (l : (List (Int × Int))) : Option ((Int × Int) × Int) := evF cx n 93 ((l, ()) : El (cx.arg 93))
noncomputable def r10_parts (n : Nat) (n_ : Int) (each : Int) : Option Int := evF cx n 94 ((n_, each, ()) : El (cx.arg 94))
noncomputable def conf_parts (n : Nat) (n_ : Int) (by_ : Int) : Option Int := evF cx n 95 ((n_, by_, ()) : El (cx.arg 95))
noncomputable def r01_Add (n : Nat) (a : (Int × Int)) (b : (Int × Int)) : Option ((Int × Int) × Int) := evF cx n 96 ((a, b, ()) : El (cx.arg 96))
noncomputable def r01_Bytes (n : Nat) (a : (Int × Int)) : Option (Int × (Int × (Int × (Int × (Int × (Int × (Int × (Int × (Int × (Int × (Int × (Int × (Int × (Int × (Int × Int))))))))))))))) := evF cx n 97 ((a, ()) : El (cx.arg 97))
noncomputable def slices_insertionSortCmpFunc_Slot (n : Nat) (data : (List TSlot)) (a : Int) (b : Int) (cmp : ((TSlot × (TSlot × Unit)) → Option Int)) : Option (List TSlot) := evF cx n 98 ((data, a, b, cmp, ()) : El (cx.arg 98))
noncomputable def slices_symMergeCmpFunc_Slot (n : Nat) (data : (List TSlot)) (a : Int) (m : Int) (b : Int) (cmp : ((TSlot × (TSlot × Unit)) → Option Int)) : Option (List TSlot) := evF cx n 99 ((data, a, m, b, cmp, ()) : El (cx.arg 99))
noncomputable def event_Follow (n : Nat) (p : TEvent) (c : TEvent) : Option Bool := evF cx n 100 ((p, c, ()) : El (cx.arg 100))
noncomputable def math_bits_Mul64 (n : Nat) (x : Int) (y : Int) : Option (Int × Int) := evF cx n 101 ((x, y, ()) : El (cx.arg 101))
noncomputable def wide_sure (n : Nat) (a : (Int × Int)) (over : Int) : Option ((Int × Int) × Int) := evF cx n 103 ((a, over, ()) : El (cx.arg 103))
noncomputable def event_right (n : Nat) (l : (List TEvent)) : Option Bool := evF cx n 104 ((l, ()) : El (cx.arg 104))
noncomputable def event_anew (n : Nat) (c : TEvent) (seen : Int) : Option TCell := evF cx n 105 ((c, seen, ()) : El (cx.arg 105))
noncomputable def wide_Add (n : Nat) (a : (Int × Int)) (b : (Int × Int)) : Option ((Int × Int) × Int) := evF cx n 106 ((a, b, ()) : El (cx.arg 106))
noncomputable def r01_Of (n : Nat) (l : (Int × (Int × (Int × (Int × (Int × (Int × (Int × (Int × (Int × (Int × (Int × (Int × (Int × (Int × (Int × Int)))))))))))))))) : Option (Int × Int) := evF cx n 107 ((l, ()) : El (cx.arg 107))
noncomputable def slices_rotateCmpFunc_Slot (n : Nat) (data : (List TSlot)) (a : Int) (m : Int) (b : Int) (cmp : ((TSlot × (TSlot × Unit)) → Option Int)) : Option (List TSlot) := evF cx n 108 ((data, a, m, b, cmp, ()) : El (cx.arg 108))
noncomputable def slices_swapRangeCmpFunc_Slot (n : Nat) (data : (List TSlot)) (a : Int) (b : Int) (n_ : Int) (cmp : ((TSlot × (TSlot × Unit)) → Option Int)) : Option (List TSlot) := evF cx n 109 ((data, a, b, n_, cmp, ()) : El (cx.arg 109))

noncomputable def l13_TierLast_l10 (n f : Nat) (x : (Int × (Int × ((List TEvent) × (Int × ((List TSlot) × ((List TEvent) × (Int × (Int × Unit))))))))) : Option ((Int × (Int × ((List TEvent) × (Int × ((List TSlot) × Unit))))) ⊕ Bool) := runLoop cx (evF cx n) 4 10 f x
noncomputable def l13_TierLast_l23 (n f : Nat) (x : (Int × (Int × ((List TSlot) × (Int × ((List TEvent) × ((List TEvent) × (Int × (Int × Unit))))))))) : Option ((Int × (Int × ((List TSlot) × (Int × ((List TEvent) × Unit))))) ⊕ Bool) := runLoop cx (evF cx n) 4 23 f x


noncomputable def l14_FoldTiers_l11 (n f : Nat) (x : ((List TEvent) × (TConfig × (((List TSlot) × ((List TSlot) × (List TSlot))) × (TSlot × ((List TEvent) × (Int × (Int × Unit)))))))) : Option (((List TEvent) × (TConfig × (((List TSlot) × ((List TSlot) × (List TSlot))) × Unit))) ⊕ Bool) := runLoop cx (evF cx n) 6 11 f x
noncomputable def l14_FoldTiers_l26 (n f : Nat) (x : ((List TEvent) × (TConfig × (((List TSlot) × ((List TSlot) × (List TSlot))) × (Int × (Int × Unit)))))) : Option ((TConfig × (((List TSlot) × ((List TSlot) × (List TSlot))) × Unit)) ⊕ Bool) := runLoop cx (evF cx n) 6 26 f x
noncomputable def l14_FoldTiers_l29 (n f : Nat) (x : ((List TEvent) × (TConfig × (((List TSlot) × ((List TSlot) × (List TSlot))) × (Int × (Int × (Int × ((List TEvent) × (Int × (Int × Unit)))))))))) : Option (((List TEvent) × (TConfig × (((List TSlot) × ((List TSlot) × (List TSlot))) × (Int × (Int × Unit))))) ⊕ Bool) := runLoop cx (evF cx n) 6 29 f x
noncomputable def l14_FoldTiers_l35 (n f : Nat) (x : ((List TEvent) × (TConfig × (((List TSlot) × ((List TSlot) × (List TSlot))) × (Int × (Int × (Int × ((List TEvent) × (Int × ((List TEvent) × (Int × (Int × ((List TEvent) × (Int × (Int × Unit))))))))))))))) : Option (((List TEvent) × (TConfig × (((List TSlot) × ((List TSlot) × (List TSlot))) × (Int × (Int × (Int × ((List TEvent) × (Int × ((List TEvent) × (Int × (Int × Unit))))))))))) ⊕ Bool) := runLoop cx (evF cx n) 6 35 f x

noncomputable def r13_Check_l4 (n f : Nat) (x : ((List TSlot) × (Int × ((List TSlot) × (Int × (Int × Unit)))))) : Option (Unit ⊕ Int) := runLoop cx (evF cx n) 7 4 f x

noncomputable def tier_Fold_l5 (n f : Nat) (x : (Int × (Int × (TCell × ((List TCell) × ((List TSlot) × (Int × (Int × Unit)))))))) : Option ((TCell × ((List TCell) × Unit)) ⊕ (TCell × Int)) := runLoop cx (evF cx n) 9 5 f x

noncomputable def r13_Fold_l5 (n f : Nat) (x : ((List TSlot) × (Int × (Int × (TCell × ((List TCell) × ((List TSlot) × (Int × (Int × Unit))))))))) : Option ((TCell × ((List TCell) × Unit)) ⊕ (TCell × Int)) := runLoop cx (evF cx n) 10 5 f x

noncomputable def cell_Of_l2 (n f : Nat) (x : ((List TEvent) × (TCell × ((List TEvent) × (Int × (Int × Unit)))))) : Option (((List TEvent) × (TCell × Unit)) ⊕ (TCell × Int)) := runLoop cx (evF cx n) 11 2 f x
noncomputable def cell_Of_l10 (n f : Nat) (x : (TCell × (TCell × ((List TEvent) × (Int × (Int × Unit)))))) : Option ((TCell × (TCell × Unit)) ⊕ (TCell × Int)) := runLoop cx (evF cx n) 11 10 f x





noncomputable def tier_Check_l4 (n f : Nat) (x : ((List TSlot) × (Int × ((List TSlot) × (Int × (Int × Unit)))))) : Option (Unit ⊕ Int) := runLoop cx (evF cx n) 16 4 f x

noncomputable def l14_Small_l2 (n f : Nat) (x : (((List TSlot) × ((List TSlot) × (List TSlot))) × (Int × Unit))) : Option (Unit ⊕ Int) := runLoop cx (evF cx n) 17 2 f x
















noncomputable def tier_Fits_l4 (n f : Nat) (x : (Int × (Int × ((Int × Int) × (Int × Unit))))) : Option (Unit ⊕ Bool) := runLoop cx (evF cx n) 34 4 f x

noncomputable def cell_All_l3 (n f : Nat) (x : (TCell × (TCell × ((List TCell) × (Int × (Int × Unit)))))) : Option ((TCell × (TCell × Unit)) ⊕ (TCell × Int)) := runLoop cx (evF cx n) 35 3 f x

noncomputable def r13_All_l3 (n f : Nat) (x : ((List TSlot) × ((List TSlot) × (Int × (Int × Unit))))) : Option (((List TSlot) × Unit) ⊕ (List TSlot)) := runLoop cx (evF cx n) 36 3 f x
noncomputable def r13_All_l7 (n f : Nat) (x : ((List TSlot) × (TSlot × (Int × ((List TSlot) × (Int × (Int × Unit))))))) : Option (((List TSlot) × (TSlot × (Int × ((List TSlot) × (Int × (Int × Unit)))))) ⊕ (List TSlot)) := runLoop cx (evF cx n) 36 7 f x


noncomputable def r08_All_l3 (n f : Nat) (x : (TCell × (TCell × ((List TCell) × (Int × (Int × Unit)))))) : Option ((TCell × (TCell × Unit)) ⊕ (TCell × Int)) := runLoop cx (evF cx n) 38 3 f x



















noncomputable def r13_Same_l4 (n f : Nat) (x : ((List TSlot) × ((List TSlot) × (Int × (Int × Unit))))) : Option (Unit ⊕ Bool) := runLoop cx (evF cx n) 57 4 f x





noncomputable def slices_DeleteFunc_Slot_l5 (n f : Nat) (x : ((List TSlot) × (((TSlot × Unit) → Option Bool) × (Int × (Int × Unit))))) : Option (((List TSlot) × (Int × Unit)) ⊕ (List TSlot)) := runLoop cx (evF cx n) 62 5 f x















noncomputable def r01_Times_l4 (n f : Nat) (x : (Int × ((Int × Int) × ((Int × Int) × ((Int × Int) × (Bool × Unit)))))) : Option (((Int × Int) × ((Int × Int) × Unit)) ⊕ ((Int × Int) × Int)) := runLoop cx (evF cx n) 77 4 f x



noncomputable def slices_IndexFunc_Slot_l2 (n f : Nat) (x : ((List TSlot) × (((TSlot × Unit) → Option Bool) × (Int × (Int × Unit))))) : Option (Unit ⊕ Int) := runLoop cx (evF cx n) 80 2 f x

noncomputable def slices_stableCmpFunc_Slot_l2 (n f : Nat) (x : ((List TSlot) × (Int × (((TSlot × (TSlot × Unit)) → Option Int) × (Int × (Int × (Int × Unit))))))) : Option (((List TSlot) × (Int × (((TSlot × (TSlot × Unit)) → Option Int) × (Int × (Int × Unit))))) ⊕ (List TSlot)) := runLoop cx (evF cx n) 81 2 f x
noncomputable def slices_stableCmpFunc_Slot_l7 (n f : Nat) (x : ((List TSlot) × (Int × (((TSlot × (TSlot × Unit)) → Option Int) × (Int × Unit))))) : Option (((List TSlot) × Unit) ⊕ (List TSlot)) := runLoop cx (evF cx n) 81 7 f x
noncomputable def slices_stableCmpFunc_Slot_l9 (n f : Nat) (x : ((List TSlot) × (Int × (((TSlot × (TSlot × Unit)) → Option Int) × (Int × (Int × (Int × Unit))))))) : Option (((List TSlot) × (Int × (((TSlot × (TSlot × Unit)) → Option Int) × (Int × (Int × Unit))))) ⊕ (List TSlot)) := runLoop cx (evF cx n) 81 9 f x










noncomputable def r01_Sum_l3 (n f : Nat) (x : ((Int × Int) × ((Int × Int) × ((List (Int × Int)) × (Int × (Int × Unit)))))) : Option (((Int × Int) × ((Int × Int) × Unit)) ⊕ ((Int × Int) × Int)) := runLoop cx (evF cx n) 91 3 f x


noncomputable def wide_Sum_l3 (n f : Nat) (x : ((Int × Int) × ((Int × Int) × ((List (Int × Int)) × (Int × (Int × Unit)))))) : Option (((Int × Int) × ((Int × Int) × Unit)) ⊕ ((Int × Int) × Int)) := runLoop cx (evF cx n) 93 3 f x

noncomputable def r10_parts_l2 (n f : Nat) (x : (Int × (Int × (Int × Unit)))) : Option ((Int × Unit) ⊕ Int) := runLoop cx (evF cx n) 94 2 f x




noncomputable def slices_insertionSortCmpFunc_Slot_l1 (n f : Nat) (x : ((List TSlot) × (Int × (Int × (((TSlot × (TSlot × Unit)) → Option Int) × (Int × Unit)))))) : Option (((List TSlot) × Unit) ⊕ (List TSlot)) := runLoop cx (evF cx n) 98 1 f x
noncomputable def slices_insertionSortCmpFunc_Slot_l4 (n f : Nat) (x : ((List TSlot) × (Int × (Int × (((TSlot × (TSlot × Unit)) → Option Int) × (Int × (Int × Unit))))))) : Option (((List TSlot) × (Int × (Int × (((TSlot × (TSlot × Unit)) → Option Int) × (Int × Unit))))) ⊕ (List TSlot)) := runLoop cx (evF cx n) 98 4 f x

noncomputable def slices_symMergeCmpFunc_Slot_l3 (n f : Nat) (x : ((List TSlot) × (Int × (((TSlot × (TSlot × Unit)) → Option Int) × (Int × (Int × Unit)))))) : Option (((List TSlot) × (Int × (Int × Unit))) ⊕ (List TSlot)) := runLoop cx (evF cx n) 99 3 f x
noncomputable def slices_symMergeCmpFunc_Slot_l9 (n f : Nat) (x : ((List TSlot) × (Int × (Int × Unit)))) : Option (((List TSlot) × Unit) ⊕ (List TSlot)) := runLoop cx (evF cx n) 99 9 f x
noncomputable def slices_symMergeCmpFunc_Slot_l15 (n f : Nat) (x : ((List TSlot) × (Int × (((TSlot × (TSlot × Unit)) → Option Int) × (Int × (Int × Unit)))))) : Option (((List TSlot) × (Int × (Int × Unit))) ⊕ (List TSlot)) := runLoop cx (evF cx n) 99 15 f x
noncomputable def slices_symMergeCmpFunc_Slot_l21 (n f : Nat) (x : ((List TSlot) × (Int × (Int × Unit)))) : Option (((List TSlot) × Unit) ⊕ (List TSlot)) := runLoop cx (evF cx n) 99 21 f x
noncomputable def slices_symMergeCmpFunc_Slot_l33 (n f : Nat) (x : ((List TSlot) × (Int × (Int × (Int × (((TSlot × (TSlot × Unit)) → Option Int) × (Int × (Int × (Int × (Int × (Int × Unit))))))))))) : Option (((List TSlot) × (Int × (Int × (Int × (((TSlot × (TSlot × Unit)) → Option Int) × (Int × (Int × (Int × Unit)))))))) ⊕ (List TSlot)) := runLoop cx (evF cx n) 99 33 f x




noncomputable def event_right_l2 (n f : Nat) (x : ((List TEvent) × (Int × (Int × Unit)))) : Option (Unit ⊕ Bool) := runLoop cx (evF cx n) 104 2 f x




noncomputable def slices_rotateCmpFunc_Slot_l2 (n f : Nat) (x : ((List TSlot) × (Int × (((TSlot × (TSlot × Unit)) → Option Int) × (Int × (Int × Unit)))))) : Option (((List TSlot) × (Int × (((TSlot × (TSlot × Unit)) → Option Int) × (Int × Unit)))) ⊕ (List TSlot)) := runLoop cx (evF cx n) 108 2 f x

noncomputable def slices_swapRangeCmpFunc_Slot_l1 (n f : Nat) (x : ((List TSlot) × (Int × (Int × (Int × (Int × Unit)))))) : Option (((List TSlot) × Unit) ⊕ (List TSlot)) := runLoop cx (evF cx n) 109 1 f x

end Go.Proofs.Ytapadkjknnfifaa
