/-
 A list in chunks, as slices.Chunk hands it over.
-/
import Derived.Test.YtagnkfbpgkckiaaGreatDoorFlatM4
set_option linter.unusedVariables false
namespace Go.Flat
def d0r {α:Type}:Nat->Nat->List α->List (List α)
 | 0,_,_=>[]
 | _+1,_,[]=>[]
 | k+1,n,x::t=>(x::t).take n::d0r k n ((x::t).drop n)
noncomputable def j0j {α:Type}(xs:List α)(n:Int):Option (List (List α×Unit)) :=
 tif (decide (1<=n)&&decide ((xs.length:Int)+n<=4611686018427387904)) (some ((d0r xs.length n.toNat xs).map fun l=>(l,()))) none
theorem g1q {α:Type}(k n:Nat)(x:α)(t:List α):d0r (k+1) n (x::t)=(x::t).take n::d0r k n ((x::t).drop n):=rfl
theorem j0b {α:Type}{m:Nat}(hm:1<=m):∀(f:Nat) (xs:List α),xs.length<=f->∀k,(d0r f m xs)[k]? = if k*m<xs.length then some ((xs.drop (k*m)).take m) else none:=by
 intro f;induction f with
 | zero =>
  intro xs h k;have:xs=[]:=q3n (by omega);subst this;rw[q0n (by simp)];rfl
 | succ f ih =>
  intro xs h k;cases xs with
  | nil=>rw[q0n (by simp)];rfl
  | cons x t =>
   cases k with
   | zero=>rw[q0z (by simp)];simp[d0r]
   | succ k =>
    have hl:((x::t).drop m).length=t.length+1-m:=by simp
    have h':t.length<=f:=by simpa using h
    have hkm:(k+1)*m=m+k*m:=by rw[q4r,Nat.one_mul,Nat.add_comm]
    show (d0r f m ((x::t).drop m))[k]? = _;rw[ih _ (by rw[hl];omega) k,hl,hkm,q4d];by_cases hc:k*m<t.length+1-m
    ·rw[q0z hc,q0z (by simp;omega)]
    ·rw[q0n hc,q0n (by simp;omega)]
theorem n0u {α:Type}{m:Nat}(hm:1<=m)(xs:List α)(k:Nat):k<(d0r xs.length m xs).length↔k*m<xs.length:=by
 have h:=j0b hm xs.length xs (q3c _) k;constructor
 ·intro hk;rw[q2z hk] at h;by_cases hc:k*m<xs.length
  ·exact hc
  ·rw[q0n hc] at h;cases h
 ·intro hk;rw[q0z hk] at h;exact (q3o.1 h).1
theorem v1h {α:Type}(xs:List α)(i m q:Nat)(h:q<((xs.drop i).take m).length)(h':i+q<xs.length):((xs.drop i).take m)[q]=xs[i+q]:=by simp
theorem l1t {α:Type}(xs:List α)(i m:Nat):((xs.drop i).take m).length=min m (xs.length-i):=by simp
end Go.Flat
