/- Trees, printed by program. -/
import Derived.Test.YtmcgmijdnfcfgaaCx
import Derived.KernelRfl
set_option linter.unusedVariables false
namespace Go.Proofs.Ytmcgmijdnfcfgaa
open Go.Flat
noncomputable section
abbrev a0f:=((List (List UInt8))×((List (Int×List UInt8))×(Int×Bool)))
abbrev b0a:=(Int×((Int×(Int×Int))×((Int×(Int×Int))×(Int×Int))))
abbrev a0n:=(a0f×(b0a×(Int×Int)))
def t0f (n:Nat) (c:b0a) (by_:Int) (l:(List (Int×Int))) (fails:(List (Int×(List Bool)))):Option Bool:=evF cx n 3 ((c,by_,l,fails,()):El (cx.arg 3))
def o0z (n:Nat)  : Option Bool:=evF cx n 4 (():El (cx.arg 4))
def e0c (n:Nat) (c:b0a):Option (Int×Int):=evF cx n 5 ((c,()):El (cx.arg 5))
def p0e (n:Nat) (n_:Int):Option ((Option a0f)×Int):=evF cx n 6 ((n_,()):El (cx.arg 6))
def i0l (n:Nat) (d:a0f) (c:b0a) (home:(List (List UInt8))):Option (Int×a0f):=evF cx n 7 ((d,c,home,()):El (cx.arg 7))
def j0x (n:Nat) (c:b0a) (by_:Int):Option (List (List UInt8)):=evF cx n 8 ((c,by_,()):El (cx.arg 8))
def f0k (n:Nat) (c:b0a):Option Int:=evF cx n 9 ((c,()):El (cx.arg 9))
def g0l (n:Nat) (c:Int):Option (List UInt8):=evF cx n 10 ((c,()):El (cx.arg 10))
def p0g (n:Nat) (d:a0f) (n_:Int):Option a0f:=evF cx n 11 ((d,n_,()):El (cx.arg 11))
def b0l (n:Nat) (d:a0f) (c:b0a) (l:(List (Int×List UInt8))):Option (Int×a0f):=evF cx n 12 ((d,c,l,()):El (cx.arg 12))
def b0x (n:Nat) (l:(List (Int×Int))):Option (List (Int×List UInt8)):=evF cx n 13 ((l,()):El (cx.arg 13))
def e0x (n:Nat) (d:a0f) (c:b0a):Option (Int×(Int×a0f)):=evF cx n 14 ((d,c,()):El (cx.arg 14))
def e0z (n:Nat) (d:a0f) (keep:(List Bool)):Option (Int×a0f):=evF cx n 15 ((d,keep,()):El (cx.arg 15))
def b0u (n:Nat) (d:a0f) (c:b0a):Option ((List (List UInt8))×(Int×a0f)):=evF cx n 16 ((d,c,()):El (cx.arg 16))
def c0c (n:Nat) (a:(List (List UInt8))) (b:(List (List UInt8))):Option Bool:=evF cx n 17 ((a,b,()):El (cx.arg 17))
def c0h (n:Nat) (d:a0f):Option (Int×(Int×(Int×a0f))):=evF cx n 18 ((d,()):El (cx.arg 18))
def b1p (n:Nat)  : Option b0a:=evF cx n 19 (():El (cx.arg 19))
def g0f (n:Nat) (c:b0a):Option Int:=evF cx n 20 ((c,()):El (cx.arg 20))
def q0j (n:Nat) (c:b0a):Option Int:=evF cx n 21 ((c,()):El (cx.arg 21))
def g0w (n:Nat) (x:(List (List UInt8))) (count:Int):Option (List (List UInt8)):=evF cx n 22 ((x,count,()):El (cx.arg 22))
def strings_Repeat (n:Nat) (s:List UInt8) (count:Int):Option (List UInt8):=evF cx n 23 ((s,count,()):El (cx.arg 23))
def c0y (n:Nat) (d:a0f):Option Int:=evF cx n 25 ((d,()):El (cx.arg 25))
def d0u (n:Nat) (s:(List (List UInt8))) (f_:((List UInt8×Unit)→Option Bool)):Option Bool:=evF cx n 26 ((s,f_,()):El (cx.arg 26))
def o0n (n:Nat) (s:List UInt8):Option Bool:=evF cx n 27 ((s,()):El (cx.arg 27))
def d0t (n:Nat) (g:a0n) (all:(List (List (Int×List UInt8)))):Option (Int×a0n):=evF cx n 28 ((g,all,()):El (cx.arg 28))
def d0y (n:Nat) (number:Int) (many:Int):Option (Int×List UInt8):=evF cx n 29 ((number,many,()):El (cx.arg 29))
def g0e (n:Nat) (c:b0a):Option Int:=evF cx n 30 ((c,()):El (cx.arg 30))
def d0v (n:Nat) (s:(List (Int×List UInt8))) (f_:(((Int×List UInt8)×Unit)→Option Bool)):Option Bool:=evF cx n 31 ((s,f_,()):El (cx.arg 31))
def o0o (n:Nat) (x:(Int×List UInt8)) (p1:a0n):Option Bool:=evF cx n 32 ((x,p1,()):El (cx.arg 32))
def j0a (n:Nat) (g:a0n) (x:(Int×List UInt8)):Option Bool:=evF cx n 33 ((g,x,()):El (cx.arg 33))
def j0n (n:Nat) (g:a0n) (l:(List (Int×List UInt8))):Option ((List (Int×List UInt8))×a0n):=evF cx n 34 ((g,l,()):El (cx.arg 34))
def j0o (n:Nat) (g:a0n) (l:(List (Int×List UInt8))):Option ((List (Int×List UInt8))×a0n):=evF cx n 35 ((g,l,()):El (cx.arg 35))
def l0v (n:Nat) (g:a0n) (i:Int):Option ((Int×List UInt8)×(Int×a0n)):=evF cx n 36 ((g,i,()):El (cx.arg 36))
def g0o (n:Nat) (d:a0f) (is:((Int×Unit)→Option Bool)):Option (Int×a0f):=evF cx n 37 ((d,is,()):El (cx.arg 37))
def j0s (n:Nat) (i:Int) (p1:(List Bool)):Option Bool:=evF cx n 38 ((i,p1,()):El (cx.arg 38))
def d0e (n:Nat) (d:a0f) (i:Int):Option (List UInt8×(Int×a0f)):=evF cx n 39 ((d,i,()):El (cx.arg 39))
def q0k (n:Nat) (s:List UInt8):Option (List UInt8×Bool):=evF cx n 40 ((s,()):El (cx.arg 40))
def h0b (n:Nat) (r:(List UInt8×Bool)) (n_:Int):Option (List UInt8×(List UInt8×Bool)):=evF cx n 41 ((r,n_,()):El (cx.arg 41))
def d0b (n:Nat) (r:(List UInt8×Bool)) (width:Int):Option (Int×(List UInt8×Bool)):=evF cx n 42 ((r,width,()):El (cx.arg 42))
def e0b (n:Nat) (n_:Int) (low:Int) (high:Int):Option Bool:=evF cx n 43 ((n_,low,high,()):El (cx.arg 43))
def f0j (n:Nat) (n_:Int) (low:Int) (high:Int):Option Bool:=evF cx n 44 ((n_,low,high,()):El (cx.arg 44))
def g0c (n:Nat) (c:b0a):Option Int:=evF cx n 45 ((c,()):El (cx.arg 45))
def k0t (n:Nat) (x:Int) (y:Int):Option (Int×Int):=evF cx n 46 ((x,y,()):El (cx.arg 46))
def c0e (n:Nat) (b:List UInt8) (n_:Int):Option (List UInt8):=evF cx n 48 ((b,n_,()):El (cx.arg 48))
def b0g (n:Nat) (b:List UInt8) (s:List UInt8):Option (Int×(Bool×List UInt8)):=evF cx n 49 ((b,s,()):El (cx.arg 49))
def d0n (n:Nat) (b:List UInt8):Option (Int×List UInt8):=evF cx n 50 ((b,()):El (cx.arg 50))
def c0q (n:Nat) (b:List UInt8):Option (List UInt8×List UInt8):=evF cx n 51 ((b,()):El (cx.arg 51))
def i0d (n:Nat) (s:(List (List UInt8))) (f_:((List UInt8×Unit)→Option Bool)):Option Int:=evF cx n 52 ((s,f_,()):El (cx.arg 52))
def k0p (n:Nat) (g:a0n) (l:(List (Int×List UInt8))):Option (Int×a0n):=evF cx n 53 ((g,l,()):El (cx.arg 53))
def l0j (n:Nat) (w:(List Int)) (s:List UInt8):Option (List Int):=evF cx n 54 ((w,s,()):El (cx.arg 54))
def d0a (n:Nat) (w:(List Int)) (width:Int) (n_:Int):Option (List Int):=evF cx n 55 ((w,width,n_,()):El (cx.arg 55))
def r0r (n:Nat) (s:List UInt8):Option (List UInt8):=evF cx n 56 ((s,()):El (cx.arg 56))
def h0a (n:Nat) (w:(List Int)):Option (List UInt8×(List Int)):=evF cx n 57 ((w,()):El (cx.arg 57))
def g0d (n:Nat) (n_:Int) (by_:Int):Option Int:=evF cx n 58 ((n_,by_,()):El (cx.arg 58))
def i0e (n:Nat) (s:(List (Int×List UInt8))) (f_:(((Int×List UInt8)×Unit)→Option Bool)):Option Int:=evF cx n 59 ((s,f_,()):El (cx.arg 59))
def l0s (n:Nat) (s:(List (Int×List UInt8))):Option (List (Int×List UInt8)):=evF cx n 60 ((s,()):El (cx.arg 60))
def i0f (n:Nat) (s:(List (Int×List UInt8))) (n_:Int):Option (List ((List (Int×List UInt8))×Unit)):=evF cx n 61 ((s,n_,()):El (cx.arg 61))
def k0x (n:Nat) (d:a0f) (i:Int):Option (Bool×a0f):=evF cx n 62 ((d,i,()):El (cx.arg 62))
def c0j (n:Nat) (r:(List UInt8×Bool)):Option (List UInt8×Bool):=evF cx n 64 ((r,()):El (cx.arg 64))
def i0p (n:Nat) (x:Int) (y:Int):Option (Int×Int):=evF cx n 66 ((x,y,()):El (cx.arg 66))
def i0r (n:Nat) (d:a0f) (i:Int) (s:List UInt8):Option (Int×a0f):=evF cx n 70 ((d,i,s,()):El (cx.arg 70))
def g0p (n:Nat) (d:a0f):Option (Int×a0f):=evF cx n 71 ((d,()):El (cx.arg 71))
def g0n (n:Nat) (d:a0f):Option (Int×a0f):=evF cx n 76 ((d,()):El (cx.arg 76))
def g0z (n:Nat) (p0:Int):Option Bool:=evF cx n 77 ((p0,()):El (cx.arg 77))
def g0j (n f:Nat) (x:(a0f×((Unit×(b0a×(Int×Int)))×((List (Int×List UInt8))×((List (List UInt8))×(Int×(Int×Unit))))))):Option ((a0f×((Unit×(b0a×(Int×Int)))×((List (Int×List UInt8))×Unit))) ⊕ (Int×a0f)):=d0p cx (evF cx n) 7 8 f x
def j0d (n f:Nat) (x:(Int×((List (List UInt8))×(Int×(Int×Unit))))):Option (((List (List UInt8))×Unit) ⊕ (List (List UInt8))):=d0p cx (evF cx n) 8 6 f x
def g0m (n f:Nat) (x:((List (Int×List UInt8))×((List (Int×Int))×(Int×(Int×Unit))))):Option (((List (Int×List UInt8))×Unit) ⊕ (List (Int×List UInt8))):=d0p cx (evF cx n) 13 3 f x
def e0u (n f:Nat) (x:(a0f×((Unit×(b0a×(Int×Int)))×(Int×(Int×((List (Int×List UInt8))×(Int×(Int×Unit)))))))):Option ((a0f×((Unit×(b0a×(Int×Int)))×(Int×(Int×((List (Int×List UInt8))×Unit))))) ⊕ (Int×(Int×a0f))):=d0p cx (evF cx n) 14 13 f x
def j0b (n f:Nat) (x:(a0f×((Unit×(b0a×(Int×Int)))×((List (List UInt8))×(Int×Unit))))):Option ((a0f×((List (List UInt8))×Unit)) ⊕ ((List (List UInt8))×(Int×a0f))):=d0p cx (evF cx n) 16 6 f x
def f0x (n f:Nat) (x:((List (List UInt8))×((List (List UInt8))×(Int×(Int×Unit))))):Option (Unit ⊕ Bool):=d0p cx (evF cx n) 17 4 f x
def d0o (n f:Nat) (x:((List (List UInt8))×(Int×Unit))):Option (((List (List UInt8))×Unit) ⊕ (List (List UInt8))):=d0p cx (evF cx n) 22 8 f x
def e0i (n f:Nat) (x:(a0n×((List (List (Int×List UInt8)))×(Int×(Int×Unit))))):Option ((a0n×Unit) ⊕ (Int×a0n)):=d0p cx (evF cx n) 28 2 f x
def e0h (n f:Nat) (x:(a0n×((List (Int×List UInt8))×(Int×(Int×Unit))))):Option ((a0n×((List (Int×List UInt8))×Unit)) ⊕ ((List (Int×List UInt8))×a0n)):=d0p cx (evF cx n) 34 3 f x
def e0j (n:Nat) (l:List ((List (Int×List UInt8))×Unit)) (x:(a0n×((List (Int×List UInt8))×Unit))):Option (a0n×((List (Int×List UInt8))×Unit)):=runSeq cx (evF cx n) 35 4 (.pair (.slice (.wrap (.pair (.int .i64) .str))) .unit) l x
def e0k (n f:Nat) (x:(a0n×((List (Int×List UInt8))×((List Int)×((List (Int×List UInt8))×(Int×(Int×Unit))))))):Option ((a0n×((List (Int×List UInt8))×((List Int)×Unit))) ⊕ ((List (Int×List UInt8))×a0n)):=d0p cx (evF cx n) 35 6 f x
def d0g (n f:Nat) (x:(a0f×(((Int×Unit)→Option Bool)×(Int×(Int×(Int×Unit)))))):Option ((a0f×(Int×Unit)) ⊕ (Int×a0f)):=d0p cx (evF cx n) 37 3 f x
def b0o (n f:Nat) (x:((List UInt8×Bool)×(Int×((List Int)×(Int×(Int×Unit)))))):Option (((List UInt8×Bool)×(Int×Unit)) ⊕ (Int×(List UInt8×Bool))):=d0p cx (evF cx n) 42 6 f x
def e0t (n f:Nat) (x:(a0n×((List (Int×List UInt8))×(Int×(Int×Unit))))):Option ((a0n×Unit) ⊕ (Int×a0n)):=d0p cx (evF cx n) 53 2 f x
def c0z (n f:Nat) (x:((List Int)×(Int×(Int×Unit)))):Option (((List Int)×Unit) ⊕ (List Int)):=d0p cx (evF cx n) 55 2 f x
def c0t (n f:Nat) (x:((List (Int×List UInt8))×((((Int×List UInt8)×Unit)→Option Bool)×(Int×(Int×Unit))))):Option (Unit ⊕ Int):=d0p cx (evF cx n) 59 2 f x
theorem obs {α β:Type} (x:α) (f:α→Option β):a0c (some x) f=f x:=f1f x f
theorem tfd {α:Type} (p:Prop) [Decidable p] (x y:α):tif (decide p) x y=if p then x else y:=tif_dec p x y
theorem tff {α:Type} (x y:α):tif false x y=y:=g1z x y
theorem tft {α:Type} (x y:α):tif true x y=x:=tif_true x y
theorem tfn {α:Type} (b:Bool) (x y:α):tif (!b) x y=tif b y x:=by cases b <;> rfl
end
end Go.Proofs.Ytmcgmijdnfcfgaa
