/-
 A list in chunks, as slices.Chunk hands it over.
-/
import Derived.Test.YtmcgmijdnfcfgaaFlatM4
set_option linter.unusedVariables false
namespace Go.Flat
def i0u {α:Type}:Nat→Nat→List α→List (List α)
 | 0,_,_=>[]
 | _+1,_,[]=>[]
 | k+1,n,x::t=>(x::t).take n::i0u k n ((x::t).drop n)
noncomputable def q0x {α:Type} (xs:List α) (n:Int):Option (List (List α×Unit)) :=
 tif (decide (1≤n)&&decide ((xs.length:Int)+n≤4611686018427387904)) (some ((i0u xs.length n.toNat xs).map fun l=>(l,()))) none
theorem a1d {α:Type} (k n:Nat) (x:α) (t:List α):i0u (k+1) n (x::t)=(x::t).take n::i0u k n ((x::t).drop n):=rfl
theorem c1l {α:Type} (k n:Nat):i0u k n ([]:List α)=[]:=by cases k<;>rfl
theorem t0s {α:Type} {m:Nat} (hm:1≤m):∀(f:Nat) (xs:List α),xs.length≤f→∀k,(i0u f m xs)[k]? = if k*m<xs.length then some ((xs.drop (k*m)).take m) else none:=by
 intro f;induction f with
 | zero =>
  intro xs h k;have:xs=[]:=List.eq_nil_of_length_eq_zero (by omega);subst this;rw[if_neg (by simp)];rfl
 | succ f ih =>
  intro xs h k;cases xs with
  | nil=>rw[if_neg (by simp)];rfl
  | cons x t =>
   cases k with
   | zero=>rw[if_pos (by simp)];simp[i0u]
   | succ k =>
    have hl:((x::t).drop m).length=t.length+1-m:=by simp
    have h':t.length≤f:=by simpa using h
    have hkm:(k+1)*m=m+k*m:=by rw[Nat.add_mul,Nat.one_mul,Nat.add_comm]
    show (i0u f m ((x::t).drop m))[k]? = _;rw[ih _ (by rw[hl];omega) k,hl,hkm,List.drop_drop];by_cases hc:k*m<t.length+1-m
    ·rw[if_pos hc,if_pos (by simp;omega)]
    ·rw[if_neg hc,if_neg (by simp;omega)]
theorem g1e {α:Type} {m:Nat} (hm:1≤m) (xs:List α) (k:Nat):k<(i0u xs.length m xs).length↔k*m<xs.length:=by
 have h:=t0s hm xs.length xs (Nat.le_refl _) k;constructor
 ·intro hk;rw[List.getElem?_eq_getElem hk] at h;by_cases hc:k*m<xs.length
  ·exact hc
  ·rw[if_neg hc] at h;cases h
 ·intro hk;rw[if_pos hk] at h;exact (List.getElem?_eq_some_iff.1 h).1
theorem chunk_at {α:Type} (xs:List α) (i m q:Nat) (h:q<((xs.drop i).take m).length) (h':i+q<xs.length):((xs.drop i).take m)[q]=xs[i+q]:=by simp
theorem k1n {α:Type} (xs:List α) (i m:Nat):((xs.drop i).take m).length=min m (xs.length-i):=by simp
end Go.Flat
