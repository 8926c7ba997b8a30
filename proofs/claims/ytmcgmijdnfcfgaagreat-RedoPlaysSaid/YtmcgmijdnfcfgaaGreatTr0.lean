/- Trees, printed by program. -/
import Derived.Test.YtmcgmijdnfcfgaaGreatCx
import Derived.KernelRfl
set_option linter.unusedVariables false
namespace Go.Proofs.YtmcgmijdnfcfgaaGreat
open Go.Flat
noncomputable section
abbrev c0e:=(Int×((List (Int×Int))×(Int×(List Bool))))
abbrev a0a:=((List (List UInt8))×((List (Int×List UInt8))×(Int×Bool)))
abbrev a0p:=(Int×((Int×(Int×Int))×((Int×(Int×Int))×(Int×Int))))
abbrev a0r:=(a0a×(a0p×(Int×Int)))
def r0n (n:Nat) (c:a0p) (size:Int) (l:(List c0e)):Option Bool:=evF cx n 3 ((c,size,l,()):El (cx.arg 3))
def r0m (n:Nat)  : Option Bool:=evF cx n 4 (():El (cx.arg 4))
def r0t (n:Nat) (n_:Int):Option ((Option a0a)×Int):=evF cx n 5 ((n_,()):El (cx.arg 5))
def d1m (n:Nat) (c:a0p):Option Bool:=evF cx n 6 ((c,()):El (cx.arg 6))
def a1j (n:Nat) (n_:Int):Option (a0a×Bool):=evF cx n 7 ((n_,()):El (cx.arg 7))
def s0k (n:Nat) (d:a0a) (c:a0p) (l:(List (Int×List UInt8))):Option (a0a×Int):=evF cx n 8 ((d,c,l,()):El (cx.arg 8))
def m0r (n:Nat) (l:(List (Int×Int))):Option (List (Int×List UInt8)):=evF cx n 9 ((l,()):El (cx.arg 9))
def f0l (n:Nat) (d:a0a) (c:a0p) (l:(List (Int×List UInt8))):Option (Int×a0a):=evF cx n 10 ((d,c,l,()):El (cx.arg 10))
def q0c (n:Nat) (d:a0a) (c:a0p):Option (a0a×(Int×Int)):=evF cx n 11 ((d,c,()):El (cx.arg 11))
def k0h (n:Nat) (d:a0a) (c:a0p):Option (Int×(Int×a0a)):=evF cx n 12 ((d,c,()):El (cx.arg 12))
def t0p (n:Nat) (d:a0a) (n_:Int):Option a0a:=evF cx n 13 ((d,n_,()):El (cx.arg 13))
def r0v (n:Nat) (d:a0a) (n_:Int):Option a0a:=evF cx n 14 ((d,n_,()):El (cx.arg 14))
def q0d (n:Nat) (d:a0a) (keep:(List Bool)):Option (a0a×Int):=evF cx n 15 ((d,keep,()):El (cx.arg 15))
def o0u (n:Nat) (d:a0a) (keep:(List Bool)):Option (Int×a0a):=evF cx n 16 ((d,keep,()):El (cx.arg 16))
def h0b (n:Nat) (d:a0a) (i:Int) (s:List UInt8):Option (a0a×Int):=evF cx n 17 ((d,i,s,()):El (cx.arg 17))
def f0z (n:Nat) (c:Int):Option (List UInt8):=evF cx n 18 ((c,()):El (cx.arg 18))
def g0b (n:Nat) (d:a0a) (i:Int) (s:List UInt8):Option (Int×a0a):=evF cx n 19 ((d,i,s,()):El (cx.arg 19))
def s0j (n:Nat) (d:a0a) (c:a0p) (home:(List (List UInt8))):Option (a0a×Int):=evF cx n 20 ((d,c,home,()):El (cx.arg 20))
def j0v (n:Nat) (c:a0p) (by_:Int):Option (List (List UInt8)):=evF cx n 21 ((c,by_,()):El (cx.arg 21))
def j0m (n:Nat) (d:a0a) (c:a0p) (home:(List (List UInt8))):Option (Int×a0a):=evF cx n 22 ((d,c,home,()):El (cx.arg 22))
def b0r (n:Nat) (d:a0a):Option (Int×(Int×(Int×a0a))):=evF cx n 23 ((d,()):El (cx.arg 23))
def c0n (n:Nat) (d:a0a):Option (Int×(Int×Int)):=evF cx n 24 ((d,()):El (cx.arg 24))
def d0y (n:Nat) (d:a0a) (c:a0p):Option ((List (List UInt8))×(Int×a0a)):=evF cx n 25 ((d,c,()):El (cx.arg 25))
def g0z (n:Nat) (d:a0a) (c:a0p):Option ((List (List UInt8))×Int):=evF cx n 26 ((d,c,()):El (cx.arg 26))
def c0l (n:Nat) (a:(List (List UInt8))) (b:(List (List UInt8))):Option Bool:=evF cx n 27 ((a,b,()):El (cx.arg 27))
def c0d (n:Nat) (d:a0a):Option (Bool×a0a):=evF cx n 28 ((d,()):El (cx.arg 28))
def b0s (n:Nat) (d:a0a):Option ((List (List UInt8))×a0a):=evF cx n 29 ((d,()):El (cx.arg 29))
def b0o (n:Nat) (a:(List (Int×List UInt8))) (b:(List (Int×List UInt8))):Option Bool:=evF cx n 30 ((a,b,()):El (cx.arg 30))
def b0i (n:Nat) (d:a0a):Option ((List (Int×List UInt8))×a0a):=evF cx n 31 ((d,()):El (cx.arg 31))
def f1w (n:Nat)  : Option a0p:=evF cx n 32 (():El (cx.arg 32))
def h0x (n:Nat) (x:(List (List UInt8))) (count:Int):Option (List (List UInt8)):=evF cx n 33 ((x,count,()):El (cx.arg 33))
def strings_Repeat (n:Nat) (s:List UInt8) (count:Int):Option (List UInt8):=evF cx n 34 ((s,count,()):El (cx.arg 34))
def c0j (n:Nat) (c:a0p):Option (Int×Int):=evF cx n 35 ((c,()):El (cx.arg 35))
def m0i (n:Nat) (d:a0a) (c:a0p):Option Bool:=evF cx n 36 ((d,c,()):El (cx.arg 36))
def m0m (n:Nat) (c:a0p):Option Int:=evF cx n 37 ((c,()):El (cx.arg 37))
def o0f (n:Nat) (c:a0p):Option Int:=evF cx n 38 ((c,()):El (cx.arg 38))
def o0h (n:Nat) (width:Int) (n_:Int):Option (List UInt8):=evF cx n 39 ((width,n_,()):El (cx.arg 39))
def v0r (n:Nat) (s:List UInt8):Option (List UInt8):=evF cx n 40 ((s,()):El (cx.arg 40))
def f0m (n:Nat) (number:Int) (many:Int):Option (Int×List UInt8):=evF cx n 41 ((number,many,()):El (cx.arg 41))
def j0n (n:Nat) (d:a0a) (l:(List (Int×List UInt8))):Option (a0a×Int):=evF cx n 42 ((d,l,()):El (cx.arg 42))
def e0g (n:Nat) (s:(List (Int×List UInt8))) (f_:(((Int×List UInt8)×Unit)→Option Bool)):Option Bool:=evF cx n 44 ((s,f_,()):El (cx.arg 44))
def q0y (n:Nat) (x:(Int×List UInt8)) (p1:a0r):Option Bool:=evF cx n 45 ((x,p1,()):El (cx.arg 45))
def k0g (n:Nat) (g:a0r) (x:(Int×List UInt8)):Option Bool:=evF cx n 46 ((g,x,()):El (cx.arg 46))
def e0c (n:Nat) (g:a0r) (all:(List (List (Int×List UInt8)))):Option (Int×a0r):=evF cx n 47 ((g,all,()):El (cx.arg 47))
def k0z (n:Nat) (g:a0r) (l:(List (Int×List UInt8))):Option ((List (Int×List UInt8))×a0r):=evF cx n 48 ((g,l,()):El (cx.arg 48))
def l0a (n:Nat) (g:a0r) (l:(List (Int×List UInt8))):Option ((List (Int×List UInt8))×a0r):=evF cx n 49 ((g,l,()):El (cx.arg 49))
def e0k (n:Nat) (number:Int) (many:Int):Option (Int×List UInt8):=evF cx n 50 ((number,many,()):El (cx.arg 50))
def e0w (n:Nat) (d:a0a) (i:Int):Option (List UInt8×Int):=evF cx n 51 ((d,i,()):El (cx.arg 51))
def e0a (n:Nat) (r:(List UInt8×Bool)) (width:Int):Option ((List UInt8×Bool)×Int):=evF cx n 52 ((r,width,()):El (cx.arg 52))
def n0y (n:Nat) (g:a0r) (i:Int):Option ((Int×List UInt8)×(Int×a0r)):=evF cx n 53 ((g,i,()):El (cx.arg 53))
def f0x (n:Nat) (d:a0a) (l:(List (Int×List UInt8))):Option a0a:=evF cx n 54 ((d,l,()):El (cx.arg 54))
def h0f (n:Nat) (d:a0a) (is:((Int×Unit)→Option Bool)):Option (Int×a0a):=evF cx n 55 ((d,is,()):El (cx.arg 55))
def l0f (n:Nat) (i:Int) (p1:(List Bool)):Option Bool:=evF cx n 56 ((i,p1,()):El (cx.arg 56))
def i0t (n:Nat) (d:a0a):Option (a0a×Bool):=evF cx n 57 ((d,()):El (cx.arg 57))
def m0v (n:Nat) (d:a0a) (i:Int):Option (Bool×a0a):=evF cx n 58 ((d,i,()):El (cx.arg 58))
def h0e (n:Nat) (d:a0a):Option (Int×a0a):=evF cx n 59 ((d,()):El (cx.arg 59))
def g0d (n:Nat) (c:a0p):Option Int:=evF cx n 60 ((c,()):El (cx.arg 60))
def d0f (n:Nat) (d:a0a):Option Int:=evF cx n 61 ((d,()):El (cx.arg 61))
def e0f (n:Nat) (s:(List (List UInt8))) (f_:((List UInt8×Unit)→Option Bool)):Option Bool:=evF cx n 62 ((s,f_,()):El (cx.arg 62))
def q0x (n:Nat) (s:List UInt8):Option Bool:=evF cx n 63 ((s,()):El (cx.arg 63))
def d0l (n:Nat) (d:a0a) (i:Int):Option (List UInt8×(Int×a0a)):=evF cx n 64 ((d,i,()):El (cx.arg 64))
def t0e (n:Nat) (s:List UInt8):Option (List UInt8×Bool):=evF cx n 65 ((s,()):El (cx.arg 65))
def i0e (n:Nat) (r:(List UInt8×Bool)) (n_:Int):Option (List UInt8×(List UInt8×Bool)):=evF cx n 66 ((r,n_,()):El (cx.arg 66))
def d0i (n:Nat) (r:(List UInt8×Bool)) (width:Int):Option (Int×(List UInt8×Bool)):=evF cx n 67 ((r,width,()):El (cx.arg 67))
def n0u (n:Nat) (s:(List (List UInt8))):Option (List (List UInt8)):=evF cx n 68 ((s,()):El (cx.arg 68))
def j0e (n:Nat) (s:(List (Int×List UInt8))):Option (List (Int×List UInt8)):=evF cx n 69 ((s,()):El (cx.arg 69))
def m0q (n:Nat) (x:Int) (y:Int):Option (Int×Int):=evF cx n 70 ((x,y,()):El (cx.arg 70))
def c0o (n:Nat) (b:List UInt8) (n_:Int):Option (List UInt8):=evF cx n 72 ((b,n_,()):El (cx.arg 72))
def b0h (n:Nat) (b:List UInt8) (s:List UInt8):Option (Int×(Bool×List UInt8)):=evF cx n 73 ((b,s,()):El (cx.arg 73))
def d0u (n:Nat) (b:List UInt8):Option (Int×List UInt8):=evF cx n 74 ((b,()):El (cx.arg 74))
def c0w (n:Nat) (b:List UInt8):Option (List UInt8×List UInt8):=evF cx n 75 ((b,()):El (cx.arg 75))
def g0u (n:Nat) (c:a0p):Option Int:=evF cx n 76 ((c,()):El (cx.arg 76))
def p0l (n:Nat) (c:a0p):Option Int:=evF cx n 77 ((c,()):El (cx.arg 77))
def u0s (n:Nat) (c:a0p):Option (Int×Int):=evF cx n 78 ((c,()):El (cx.arg 78))
def j0r (n:Nat) (c:a0p):Option Int:=evF cx n 79 ((c,()):El (cx.arg 79))
def j0q (n:Nat) (n_:Int) (each:Int):Option Int:=evF cx n 80 ((n_,each,()):El (cx.arg 80))
def i0u (n:Nat) (d:a0a):Option (a0a×Int):=evF cx n 81 ((d,()):El (cx.arg 81))
def f0q (n:Nat) (c:a0p):Option Int:=evF cx n 82 ((c,()):El (cx.arg 82))
def j0d (n:Nat) (s:(List (Int×List UInt8))) (f_:(((Int×List UInt8)×Unit)→Option Bool)):Option Int:=evF cx n 83 ((s,f_,()):El (cx.arg 83))
def m0g (n:Nat) (g:a0r) (l:(List (Int×List UInt8))):Option (Int×a0r):=evF cx n 84 ((g,l,()):El (cx.arg 84))
def j0f (n:Nat) (s:(List (Int×List UInt8))) (n_:Int):Option (List ((List (Int×List UInt8))×Unit)):=evF cx n 85 ((s,n_,()):El (cx.arg 85))
def d0h (n:Nat) (w:(List Int)) (width:Int) (n_:Int):Option (List Int):=evF cx n 86 ((w,width,n_,()):El (cx.arg 86))
def u0r (n:Nat) (s:List UInt8):Option (List UInt8):=evF cx n 87 ((s,()):El (cx.arg 87))
def i0d (n:Nat) (w:(List Int)):Option (List UInt8×(List Int)):=evF cx n 88 ((w,()):El (cx.arg 88))
def n0l (n:Nat) (w:(List Int)) (s:List UInt8):Option (List Int):=evF cx n 89 ((w,s,()):El (cx.arg 89))
def p0u (n:Nat) (r:(List UInt8×Bool)) (n_:Int):Option ((List UInt8×Bool)×List UInt8):=evF cx n 90 ((r,n_,()):El (cx.arg 90))
def j0c (n:Nat) (s:(List (List UInt8))) (f_:((List UInt8×Unit)→Option Bool)):Option Int:=evF cx n 91 ((s,f_,()):El (cx.arg 91))
def c0p (n:Nat) (r:(List UInt8×Bool)):Option (List UInt8×Bool):=evF cx n 93 ((r,()):El (cx.arg 93))
def j0u (n:Nat) (x:Int) (y:Int):Option (Int×Int):=evF cx n 95 ((x,y,()):El (cx.arg 95))
def e0n (n:Nat) (n_:Int) (low:Int) (high:Int):Option Bool:=evF cx n 99 ((n_,low,high,()):El (cx.arg 99))
def g0c (n:Nat) (n_:Int) (low:Int) (high:Int):Option Bool:=evF cx n 100 ((n_,low,high,()):El (cx.arg 100))
def g0s (n:Nat) (c:a0p):Option Int:=evF cx n 101 ((c,()):El (cx.arg 101))
def v0v (n:Nat) (c:a0p):Option Int:=evF cx n 102 ((c,()):El (cx.arg 102))
def r0e (n:Nat) (c:a0p):Option Int:=evF cx n 103 ((c,()):El (cx.arg 103))
def g0t (n:Nat) (n_:Int) (by_:Int):Option Int:=evF cx n 104 ((n_,by_,()):El (cx.arg 104))
def h0g (n:Nat) (d:a0a):Option (Int×a0a):=evF cx n 105 ((d,()):El (cx.arg 105))
def i0c (n:Nat) (p0:Int):Option Bool:=evF cx n 110 ((p0,()):El (cx.arg 110))
def l0l (n f:Nat) (x:(a0a×(List UInt8×(a0a×(Int×(Int×Unit)))))):Option ((a0a×(a0a×Unit)) ⊕ (a0a×Bool)):=b0q cx (evF cx n) 7 6 f x
def i0s (n f:Nat) (x:((List (Int×List UInt8))×(a0a×(a0p×(a0a×((List (Int×List UInt8))×(Int×(Int×Unit)))))))):Option (((List (Int×List UInt8))×(a0a×(a0p×(a0a×Unit)))) ⊕ (a0a×Int)):=b0q cx (evF cx n) 8 6 f x
def e0d (n f:Nat) (x:((List (Int×List UInt8))×(a0a×(a0a×(Int×(Int×((List (Int×List UInt8))×((List (Int×List UInt8))×(List UInt8×((List (Int×List UInt8))×(Int×(Int×Unit)))))))))))):Option (((List (Int×List UInt8))×(a0a×(a0a×(Int×((List (Int×List UInt8))×((List (Int×List UInt8))×Unit)))))) ⊕ (a0a×Int)):=b0q cx (evF cx n) 8 22 f x
def h0a (n f:Nat) (x:(a0a×(a0a×((List (List (Int×List UInt8)))×(Int×(Int×Unit)))))):Option ((a0a×(a0a×Unit)) ⊕ (a0a×Int)):=b0q cx (evF cx n) 8 31 f x
def h0d (n f:Nat) (x:((List (Int×List UInt8))×((List (Int×Int))×(Int×(Int×Unit))))):Option (((List (Int×List UInt8))×Unit) ⊕ (List (Int×List UInt8))):=b0q cx (evF cx n) 9 3 f x
def f0v (n f:Nat) (x:(a0a×(a0p×(a0a×(Int×(Int×((List (Int×List UInt8))×(Int×Unit)))))))):Option ((a0a×(a0a×(Int×(Int×((List (Int×List UInt8))×Unit))))) ⊕ (a0a×(Int×Int))):=b0q cx (evF cx n) 11 12 f x
def f0i (n f:Nat) (x:(a0a×((Unit×(a0p×(Int×Int)))×(Int×(Int×((List (Int×List UInt8))×(Int×(Int×Unit)))))))):Option ((a0a×((Unit×(a0p×(Int×Int)))×(Int×(Int×((List (Int×List UInt8))×Unit))))) ⊕ (Int×(Int×a0a))):=b0q cx (evF cx n) 12 13 f x
def e0e (n f:Nat) (x:((List Bool)×(a0a×(a0a×((List (Int×List UInt8))×((List (Int×List UInt8))×(Int×(Int×Unit)))))))):Option ((a0a×(a0a×((List (Int×List UInt8))×Unit))) ⊕ (a0a×Int)):=b0q cx (evF cx n) 15 3 f x
def f0w (n f:Nat) (x:((List (List UInt8))×(a0a×(a0a×(Int×((List (Int×List UInt8))×((List (List UInt8))×(Int×(Int×Unit))))))))):Option (((List (List UInt8))×(a0a×(a0a×(Int×((List (Int×List UInt8))×Unit))))) ⊕ (a0a×Int)):=b0q cx (evF cx n) 20 8 f x
def k0p (n f:Nat) (x:(Int×((List (List UInt8))×(Int×(Int×Unit))))):Option (((List (List UInt8))×Unit) ⊕ (List (List UInt8))):=b0q cx (evF cx n) 21 6 f x
def g0y (n f:Nat) (x:(a0a×((Unit×(a0p×(Int×Int)))×((List (Int×List UInt8))×((List (List UInt8))×(Int×(Int×Unit))))))):Option ((a0a×((Unit×(a0p×(Int×Int)))×((List (Int×List UInt8))×Unit))) ⊕ (Int×a0a)):=b0q cx (evF cx n) 22 8 f x
def k0i (n f:Nat) (x:(a0a×((Unit×(a0p×(Int×Int)))×((List (List UInt8))×(Int×Unit))))):Option ((a0a×((List (List UInt8))×Unit)) ⊕ ((List (List UInt8))×(Int×a0a))):=b0q cx (evF cx n) 25 6 f x
def m0j (n f:Nat) (x:(a0a×((List (List UInt8))×(Int×Unit)))):Option (((List (List UInt8))×Unit) ⊕ ((List (List UInt8))×Int)):=b0q cx (evF cx n) 26 5 f x
def m0k (n f:Nat) (x:((List (List UInt8))×((List (List UInt8))×(Int×(Int×Unit))))):Option (Unit ⊕ Bool):=b0q cx (evF cx n) 27 4 f x
def e0i (n f:Nat) (x:((List (Int×List UInt8))×((List (Int×List UInt8))×(Int×(Int×Unit))))):Option (Unit ⊕ Bool):=b0q cx (evF cx n) 30 4 f x
def d0v (n f:Nat) (x:((List (List UInt8))×(Int×Unit))):Option (((List (List UInt8))×Unit) ⊕ (List (List UInt8))):=b0q cx (evF cx n) 33 8 f x
def k0n (n f:Nat) (x:(Int×(Int×((List Int)×(Int×(Int×Unit)))))):Option (((List Int)×Unit) ⊕ List UInt8):=b0q cx (evF cx n) 39 5 f x
def k0j (n f:Nat) (x:(a0a×(a0a×((List (Int×List UInt8))×(Int×(Int×Unit)))))):Option ((a0a×(a0a×Unit)) ⊕ (a0a×Int)):=b0q cx (evF cx n) 42 2 f x
def e0t (n f:Nat) (x:(a0r×((List (List (Int×List UInt8)))×(Int×(Int×Unit))))):Option ((a0r×Unit) ⊕ (Int×a0r)):=b0q cx (evF cx n) 47 2 f x
def e0s (n f:Nat) (x:(a0r×((List (Int×List UInt8))×(Int×(Int×Unit))))):Option ((a0r×((List (Int×List UInt8))×Unit)) ⊕ ((List (Int×List UInt8))×a0r)):=b0q cx (evF cx n) 48 3 f x
def e0u (n:Nat) (l:List ((List (Int×List UInt8))×Unit)) (x:(a0r×((List (Int×List UInt8))×Unit))):Option (a0r×((List (Int×List UInt8))×Unit)):=runSeq cx (evF cx n) 49 4 (.pair (.slice (.wrap (.pair (.int .i64) .str))) .unit) l x
def e0v (n f:Nat) (x:(a0r×((List (Int×List UInt8))×((List Int)×((List (Int×List UInt8))×(Int×(Int×Unit))))))):Option ((a0r×((List (Int×List UInt8))×((List Int)×Unit))) ⊕ ((List (Int×List UInt8))×a0r)):=b0q cx (evF cx n) 49 6 f x
def d0z (n f:Nat) (x:(Int×(List UInt8×((List (Int×List UInt8))×(Int×(Int×Unit)))))):Option ((List UInt8×Unit) ⊕ (List UInt8×Int)):=b0q cx (evF cx n) 51 7 f x
def c0h (n f:Nat) (x:((List UInt8×Bool)×((List UInt8×Bool)×(List UInt8×(Int×(Int×Unit)))))):Option (((List UInt8×Bool)×((List UInt8×Bool)×(Int×Unit))) ⊕ ((List UInt8×Bool)×Int)):=b0q cx (evF cx n) 52 6 f x
def f0j (n f:Nat) (x:(a0a×(a0a×((List (Int×List UInt8))×(Int×(Int×Unit)))))):Option ((a0a×(a0a×Unit)) ⊕ a0a):=b0q cx (evF cx n) 54 4 f x
def d0o (n f:Nat) (x:(a0a×(((Int×Unit)→Option Bool)×(Int×(Int×(Int×Unit)))))):Option ((a0a×(Int×Unit)) ⊕ (Int×a0a)):=b0q cx (evF cx n) 55 3 f x
def b0w (n f:Nat) (x:((List UInt8×Bool)×(Int×((List Int)×(Int×(Int×Unit)))))):Option (((List UInt8×Bool)×(Int×Unit)) ⊕ (Int×(List UInt8×Bool))):=b0q cx (evF cx n) 67 6 f x
def k0l (n f:Nat) (x:(Int×(Int×(Int×Unit)))):Option ((Int×Unit) ⊕ Int):=b0q cx (evF cx n) 80 2 f x
def c0z (n f:Nat) (x:((List (Int×List UInt8))×((((Int×List UInt8)×Unit)→Option Bool)×(Int×(Int×Unit))))):Option (Unit ⊕ Int):=b0q cx (evF cx n) 83 2 f x
def f0h (n f:Nat) (x:(a0r×((List (Int×List UInt8))×(Int×(Int×Unit))))):Option ((a0r×Unit) ⊕ (Int×a0r)):=b0q cx (evF cx n) 84 2 f x
def d0g (n f:Nat) (x:((List Int)×(Int×(Int×Unit)))):Option (((List Int)×Unit) ⊕ (List Int)):=b0q cx (evF cx n) 86 2 f x
def c0y (n f:Nat) (x:((List (List UInt8))×(((List UInt8×Unit)→Option Bool)×(Int×(Int×Unit))))):Option (Unit ⊕ Int):=b0q cx (evF cx n) 91 2 f x
theorem obs {α β:Type} (x:α) (f:α→Option β):a0d (some x) f=f x:=k1m x f
theorem tfd {α:Type} (p:Prop) [Decidable p] (x y:α):tif (decide p) x y=if p then x else y:=tif_dec p x y
theorem tff {α:Type} (x y:α):tif false x y=y:=l1x x y
theorem tft {α:Type} (x y:α):tif true x y=x:=tif_true x y
theorem tfn {α:Type} (b:Bool) (x y:α):tif (!b) x y=tif b y x:=by cases b <;> rfl
end
end Go.Proofs.YtmcgmijdnfcfgaaGreat
