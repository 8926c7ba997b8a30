/-
  The functions of this seat, as the flat reading has them. Printed by program.
-/
import Derived.Test.YtmooabafkcfbhaaCx
import Derived.KernelRfl
namespace Go.Proofs.Ytmooabafkcfbhaa
open Go.Flat
noncomputable def l10_ConfTells (n : Nat) (c : (Int × ((Int × (Int × Int)) × ((Int × (Int × Int)) × (Int × Int))))) (tier : Int) (s : List UInt8) : Option Bool := evF cx n 3 ((c, tier, s, ()) : El (cx.arg 3))
noncomputable def l10_ConfBack (n : Nat) (c : (Int × ((Int × (Int × Int)) × ((Int × (Int × Int)) × (Int × Int))))) (s : List UInt8) (more : Int) : Option Bool := evF cx n 4 ((c, s, more, ()) : El (cx.arg 4))
noncomputable def l10_lives (n : Nat)  : Option Bool := evF cx n 5 (() : El (cx.arg 5))
noncomputable def conf_Size (n : Nat) (c : (Int × ((Int × (Int × Int)) × ((Int × (Int × Int)) × (Int × Int))))) : Option (Int × Int) := evF cx n 6 ((c, ()) : El (cx.arg 6))
noncomputable def r10_Size (n : Nat) (c : (Int × ((Int × (Int × Int)) × ((Int × (Int × Int)) × (Int × Int))))) : Option (Int × Int) := evF cx n 7 ((c, ()) : El (cx.arg 7))
noncomputable def conf_Read (n : Nat) (s : List UInt8) : Option ((Int × ((Int × (Int × Int)) × ((Int × (Int × Int)) × (Int × Int)))) × Int) := evF cx n 8 ((s, ()) : El (cx.arg 8))
noncomputable def r10_Read (n : Nat) (s : List UInt8) : Option ((Int × ((Int × (Int × Int)) × ((Int × (Int × Int)) × (Int × Int)))) × Int) := evF cx n 9 ((s, ()) : El (cx.arg 9))
noncomputable def conf_Check (n : Nat) (c : (Int × ((Int × (Int × Int)) × ((Int × (Int × Int)) × (Int × Int))))) : Option Int := evF cx n 10 ((c, ()) : El (cx.arg 10))
noncomputable def r10_Check (n : Nat) (c : (Int × ((Int × (Int × Int)) × ((Int × (Int × Int)) × (Int × Int))))) : Option Int := evF cx n 11 ((c, ()) : El (cx.arg 11))
noncomputable def conf_Factor (n : Nat) (c : (Int × ((Int × (Int × Int)) × ((Int × (Int × Int)) × (Int × Int))))) (tier : Int) : Option Int := evF cx n 12 ((c, tier, ()) : El (cx.arg 12))
noncomputable def r10_Factor (n : Nat) (c : (Int × ((Int × (Int × Int)) × ((Int × (Int × Int)) × (Int × Int))))) (tier : Int) : Option Int := evF cx n 13 ((c, tier, ()) : El (cx.arg 13))
noncomputable def conf_Index (n : Nat) (c : (Int × ((Int × (Int × Int)) × ((Int × (Int × Int)) × (Int × Int))))) : Option Int := evF cx n 14 ((c, ()) : El (cx.arg 14))
noncomputable def r10_Index (n : Nat) (c : (Int × ((Int × (Int × Int)) × ((Int × (Int × Int)) × (Int × Int))))) : Option Int := evF cx n 15 ((c, ()) : El (cx.arg 15))
noncomputable def conf_Home (n : Nat) (c : (Int × ((Int × (Int × Int)) × ((Int × (Int × Int)) × (Int × Int))))) : Option Int := evF cx n 16 ((c, ()) : El (cx.arg 16))
noncomputable def r10_Home (n : Nat) (c : (Int × ((Int × (Int × Int)) × ((Int × (Int × Int)) × (Int × Int))))) : Option Int := evF cx n 17 ((c, ()) : El (cx.arg 17))
noncomputable def conf_Place (n : Nat) (c : (Int × ((Int × (Int × Int)) × ((Int × (Int × Int)) × (Int × Int))))) : Option Int := evF cx n 18 ((c, ()) : El (cx.arg 18))
noncomputable def r10_Place (n : Nat) (c : (Int × ((Int × (Int × Int)) × ((Int × (Int × Int)) × (Int × Int))))) : Option Int := evF cx n 19 ((c, ()) : El (cx.arg 19))
noncomputable def conf_Bytes (n : Nat) (c : (Int × ((Int × (Int × Int)) × ((Int × (Int × Int)) × (Int × Int))))) : Option (List UInt8) := evF cx n 20 ((c, ()) : El (cx.arg 20))
noncomputable def r10_Bytes (n : Nat) (c : (Int × ((Int × (Int × Int)) × ((Int × (Int × Int)) × (Int × Int))))) : Option (List UInt8) := evF cx n 21 ((c, ()) : El (cx.arg 21))
noncomputable def conf_Retention (n : Nat) (c : (Int × ((Int × (Int × Int)) × ((Int × (Int × Int)) × (Int × Int))))) : Option Int := evF cx n 22 ((c, ()) : El (cx.arg 22))
noncomputable def r10_Retention (n : Nat) (c : (Int × ((Int × (Int × Int)) × ((Int × (Int × Int)) × (Int × Int))))) : Option Int := evF cx n 23 ((c, ()) : El (cx.arg 23))
noncomputable def l10_Fit (n : Nat)  : Option (Int × ((Int × (Int × Int)) × ((Int × (Int × Int)) × (Int × Int)))) := evF cx n 24 (() : El (cx.arg 24))
noncomputable def codec_Open (n : Nat) (s : List UInt8) : Option (List UInt8 × Bool) := evF cx n 25 ((s, ()) : El (cx.arg 25))
noncomputable def codec_Reader_Fixed (n : Nat) (r : (List UInt8 × Bool)) (width : Int) : Option (Int × (List UInt8 × Bool)) := evF cx n 26 ((r, width, ()) : El (cx.arg 26))
noncomputable def codec_Reader_Bad (n : Nat) (r : (List UInt8 × Bool)) : Option Bool := evF cx n 27 ((r, ()) : El (cx.arg 27))
noncomputable def codec_Reader_Left (n : Nat) (r : (List UInt8 × Bool)) : Option Int := evF cx n 28 ((r, ()) : El (cx.arg 28))
noncomputable def r03_Reader_Fixed (n : Nat) (r : (List UInt8 × Bool)) (width : Int) : Option ((List UInt8 × Bool) × Int) := evF cx n 29 ((r, width, ()) : El (cx.arg 29))
noncomputable def conf_in_int (n : Nat) (n_ : Int) (low : Int) (high : Int) : Option Bool := evF cx n 30 ((n_, low, high, ()) : El (cx.arg 30))
noncomputable def conf_in_int64 (n : Nat) (n_ : Int) (low : Int) (high : Int) : Option Bool := evF cx n 31 ((n_, low, high, ()) : El (cx.arg 31))
noncomputable def conf_place (n : Nat) (c : (Int × ((Int × (Int × Int)) × ((Int × (Int × Int)) × (Int × Int))))) : Option Int := evF cx n 32 ((c, ()) : El (cx.arg 32))
noncomputable def r10_place (n : Nat) (c : (Int × ((Int × (Int × Int)) × ((Int × (Int × Int)) × (Int × Int))))) : Option Int := evF cx n 33 ((c, ()) : El (cx.arg 33))
noncomputable def conf_parts (n : Nat) (n_ : Int) (by_ : Int) : Option Int := evF cx n 34 ((n_, by_, ()) : El (cx.arg 34))
noncomputable def r10_parts (n : Nat) (n_ : Int) (each : Int) : Option Int := evF cx n 35 ((n_, each, ()) : El (cx.arg 35))
noncomputable def codec_Writer_Fixed (n : Nat) (w : (List Int)) (width : Int) (n_ : Int) : Option (List Int) := evF cx n 36 ((w, width, n_, ()) : El (cx.arg 36))
noncomputable def codec_Writer_Out (n : Nat) (w : (List Int)) : Option (List UInt8 × (List Int)) := evF cx n 37 ((w, ()) : El (cx.arg 37))
noncomputable def r03_Fixed (n : Nat) (width : Int) (n_ : Int) : Option (List UInt8) := evF cx n 38 ((width, n_, ()) : El (cx.arg 38))
noncomputable def codec_Reader_fail (n : Nat) (r : (List UInt8 × Bool)) : Option (List UInt8 × Bool) := evF cx n 39 ((r, ()) : El (cx.arg 39))
noncomputable def codec_Reader_Raw (n : Nat) (r : (List UInt8 × Bool)) (n_ : Int) : Option (List UInt8 × (List UInt8 × Bool)) := evF cx n 40 ((r, n_, ()) : El (cx.arg 40))
noncomputable def r03_Reader_Raw (n : Nat) (r : (List UInt8 × Bool)) (n_ : Int) : Option ((List UInt8 × Bool) × List UInt8) := evF cx n 41 ((r, n_, ()) : El (cx.arg 41))























noncomputable def codec_Reader_Fixed_l6 (n f : Nat) (x : ((List UInt8 × Bool) × (Int × ((List Int) × (Int × (Int × Unit)))))) : Option (((List UInt8 × Bool) × (Int × Unit)) ⊕ (Int × (List UInt8 × Bool))) := runLoop cx (evF cx n) 26 6 f x



noncomputable def r03_Reader_Fixed_l6 (n f : Nat) (x : ((List UInt8 × Bool) × ((List UInt8 × Bool) × (List UInt8 × (Int × (Int × Unit)))))) : Option (((List UInt8 × Bool) × ((List UInt8 × Bool) × (Int × Unit))) ⊕ ((List UInt8 × Bool) × Int)) := runLoop cx (evF cx n) 29 6 f x






noncomputable def r10_parts_l2 (n f : Nat) (x : (Int × (Int × (Int × Unit)))) : Option ((Int × Unit) ⊕ Int) := runLoop cx (evF cx n) 35 2 f x

noncomputable def codec_Writer_Fixed_l2 (n f : Nat) (x : ((List Int) × (Int × (Int × Unit)))) : Option (((List Int) × Unit) ⊕ (List Int)) := runLoop cx (evF cx n) 36 2 f x


noncomputable def r03_Fixed_l5 (n f : Nat) (x : (Int × (Int × ((List Int) × (Int × (Int × Unit)))))) : Option (((List Int) × Unit) ⊕ List UInt8) := runLoop cx (evF cx n) 38 5 f x




end Go.Proofs.Ytmooabafkcfbhaa
