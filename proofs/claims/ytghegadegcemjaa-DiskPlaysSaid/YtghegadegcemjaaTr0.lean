/- Trees, printed by program. -/
import Derived.Test.YtghegadegcemjaaCx
import Derived.KernelRfl
set_option linter.unusedVariables false
namespace Go.Proofs.Ytghegadegcemjaa
open Go.Flat
noncomputable section
abbrev c0u:=(Int×(Int×(Int×(Bool×(List Bool)))))
abbrev a0a:=((List (List UInt8))×((List (Int×List UInt8))×(Int×Bool)))
def j0q (n:Nat) (n_:Int) (l:(List c0u)) (at_:Int):Option Bool:=evF cx n 4 ((n_,l,at_,()):El (cx.arg 4))
def j0p (n:Nat)  : Option Bool:=evF cx n 5 (():El (cx.arg 5))
def e0v (n:Nat) (n_:Int):Option ((Option a0a)×Int):=evF cx n 6 ((n_,()):El (cx.arg 6))
def a0i (n:Nat) (d:a0a) (i:Int) (s:List UInt8):Option (Int×a0a):=evF cx n 7 ((d,i,s,()):El (cx.arg 7))
def b0m (n:Nat) (c:Int):Option (List UInt8):=evF cx n 8 ((c,()):El (cx.arg 8))
def c0q (n:Nat) (d:a0a):Option (Int×a0a):=evF cx n 9 ((d,()):El (cx.arg 9))
def b0g (n:Nat) (d:a0a):Option ((List (List UInt8))×a0a):=evF cx n 10 ((d,()):El (cx.arg 10))
def a0s (n:Nat) (d:a0a):Option ((List (Int×List UInt8))×a0a):=evF cx n 11 ((d,()):El (cx.arg 11))
def d0k (n:Nat) (d:a0a) (keep:(List Bool)):Option (Int×a0a):=evF cx n 12 ((d,keep,()):El (cx.arg 12))
def a0l (n:Nat) (d:a0a) (i:Int):Option (List UInt8×(Int×a0a)):=evF cx n 13 ((d,i,()):El (cx.arg 13))
def b0a (n:Nat) (d:a0a):Option (Bool×a0a):=evF cx n 14 ((d,()):El (cx.arg 14))
def k0a (n:Nat) (n_:Int):Option (a0a×Bool):=evF cx n 15 ((n_,()):El (cx.arg 15))
def e0a (n:Nat) (d:a0a) (i:Int) (s:List UInt8):Option (a0a×Int):=evF cx n 16 ((d,i,s,()):El (cx.arg 16))
def g0u (n:Nat) (d:a0a):Option (a0a×Int):=evF cx n 17 ((d,()):El (cx.arg 17))
def k0t (n:Nat) (d:a0a) (n_:Int):Option a0a:=evF cx n 18 ((d,n_,()):El (cx.arg 18))
def d0p (n:Nat) (d:a0a) (n_:Int):Option a0a:=evF cx n 19 ((d,n_,()):El (cx.arg 19))
def i0w (n:Nat) (d:a0a) (keep:(List Bool)):Option (a0a×Int):=evF cx n 20 ((d,keep,()):El (cx.arg 20))
def f0m (n:Nat) (d:a0a):Option (a0a×a0a):=evF cx n 21 ((d,()):El (cx.arg 21))
def b0j (n:Nat) (d:a0a) (i:Int):Option (List UInt8×Int):=evF cx n 22 ((d,i,()):El (cx.arg 22))
def d0n (n:Nat) (a:(List (List UInt8))) (b:(List (List UInt8))):Option Bool:=evF cx n 23 ((a,b,()):El (cx.arg 23))
def b0d (n:Nat) (a:(List (Int×List UInt8))) (b:(List (Int×List UInt8))):Option Bool:=evF cx n 24 ((a,b,()):El (cx.arg 24))
def c0k (n:Nat) (d:a0a):Option (Int×a0a):=evF cx n 25 ((d,()):El (cx.arg 25))
def e0j (n:Nat) (x:(List (List UInt8))) (count:Int):Option (List (List UInt8)):=evF cx n 26 ((x,count,()):El (cx.arg 26))
def strings_Repeat (n:Nat) (s:List UInt8) (count:Int):Option (List UInt8):=evF cx n 27 ((s,count,()):El (cx.arg 27))
def h0d (n:Nat) (d:a0a) (i:Int):Option (Bool×a0a):=evF cx n 28 ((d,i,()):El (cx.arg 28))
def e0b (n:Nat) (d:a0a):Option (Int×a0a):=evF cx n 29 ((d,()):El (cx.arg 29))
def e0c (n:Nat) (d:a0a) (is:((Int×Unit)→Option Bool)):Option (Int×a0a):=evF cx n 30 ((d,is,()):El (cx.arg 30))
def e0k (n:Nat) (p0:Int):Option Bool:=evF cx n 31 ((p0,()):El (cx.arg 31))
def f0d (n:Nat) (s:(List (List UInt8))):Option (List (List UInt8)):=evF cx n 32 ((s,()):El (cx.arg 32))
def f0e (n:Nat) (s:(List (Int×List UInt8))):Option (List (Int×List UInt8)):=evF cx n 33 ((s,()):El (cx.arg 33))
def g0a (n:Nat) (i:Int) (p1:(List Bool)):Option Bool:=evF cx n 34 ((i,p1,()):El (cx.arg 34))
def e0s (n:Nat) (d:a0a):Option (a0a×Bool):=evF cx n 36 ((d,()):El (cx.arg 36))
def d0m (n:Nat) (d:a0a) (l:(List (Int×List UInt8))):Option a0a:=evF cx n 37 ((d,l,()):El (cx.arg 37))
def j0o (n:Nat) (x:Int) (y:Int):Option (Int×Int):=evF cx n 38 ((x,y,()):El (cx.arg 38))
def f0l (n:Nat) (x:Int) (y:Int):Option (Int×Int):=evF cx n 46 ((x,y,()):El (cx.arg 46))
def a0r (n f:Nat) (x:(Int×(Int×(a0a×(Int×(a0a×((List c0u)×(Int×(Int×Unit))))))))):Option ((Int×(a0a×(Int×Unit))) ⊕ Bool):=g0t cx (evF cx n) 4 10 f x
def g0e (n f:Nat) (x:(a0a×(List UInt8×(a0a×(Int×(Int×Unit)))))):Option ((a0a×(a0a×Unit)) ⊕ (a0a×Bool)):=g0t cx (evF cx n) 15 6 f x
def c0p (n f:Nat) (x:((List Bool)×(a0a×(a0a×((List (Int×List UInt8))×((List (Int×List UInt8))×(Int×(Int×Unit)))))))):Option ((a0a×(a0a×((List (Int×List UInt8))×Unit))) ⊕ (a0a×Int)):=g0t cx (evF cx n) 20 3 f x
def c0l (n f:Nat) (x:(Int×(List UInt8×((List (Int×List UInt8))×(Int×(Int×Unit)))))):Option ((List UInt8×Unit) ⊕ (List UInt8×Int)):=g0t cx (evF cx n) 22 7 f x
def g0v (n f:Nat) (x:((List (List UInt8))×((List (List UInt8))×(Int×(Int×Unit))))):Option (Unit ⊕ Bool):=g0t cx (evF cx n) 23 4 f x
def c0t (n f:Nat) (x:((List (Int×List UInt8))×((List (Int×List UInt8))×(Int×(Int×Unit))))):Option (Unit ⊕ Bool):=g0t cx (evF cx n) 24 4 f x
def c0h (n f:Nat) (x:((List (List UInt8))×(Int×Unit))):Option (((List (List UInt8))×Unit) ⊕ (List (List UInt8))):=g0t cx (evF cx n) 26 8 f x
def b0z (n f:Nat) (x:(a0a×(((Int×Unit)→Option Bool)×(Int×(Int×(Int×Unit)))))):Option ((a0a×(Int×Unit)) ⊕ (Int×a0a)):=g0t cx (evF cx n) 30 3 f x
def d0h (n f:Nat) (x:(a0a×(a0a×((List (Int×List UInt8))×(Int×(Int×Unit)))))):Option ((a0a×(a0a×Unit)) ⊕ a0a):=g0t cx (evF cx n) 37 4 f x
theorem obs {α β:Type} (x:α) (f:α→Option β):a0e (some x) f=f x:=v0e x f
theorem tfd {α:Type} (p:Prop) [Decidable p] (x y:α):tif (decide p) x y=if p then x else y:=tif_dec p x y
theorem tff {α:Type} (x y:α):tif false x y=y:=w0d x y
theorem tft {α:Type} (x y:α):tif true x y=x:=tif_true x y
theorem tfn {α:Type} (b:Bool) (x y:α):tif (!b) x y=tif b y x:=by cases b <;> rfl
end
end Go.Proofs.Ytghegadegcemjaa
