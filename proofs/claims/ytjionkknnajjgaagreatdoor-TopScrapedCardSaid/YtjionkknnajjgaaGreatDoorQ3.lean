/-
 Plain proofs about the functions of this seat, part 3 of 3.
-/
import Derived.Test.YtjionkknnajjgaaGreatDoorQ2
import Derived.Test.YtjionkknnajjgaaGreatDoorFlatM4
import Derived.Test.YtjionkknnajjgaaGreatDoorTr
namespace Go.Proofs.YtjionkknnajjgaaGreatDoor
open Go.Flat Go.Plim
set_option linter.unusedVariables false
set_option linter.unusedSimpArgs false
theorem s1l {X:List Int} {len:Nat} (h:0<len) (hX:len≤X.length):∃y,at? (List.take len (List.drop 0 X)) (0:Int)=some y:=p0p (i:=0) h hX
theorem y0t {v:Nat} (h:v<10):IntKind.wrap .u8 (IntKind.wrap .u32 ((48:Int)+(v:Int)))=((48+v:Nat):Int):=by
 rw[show (48:Int)+(v:Int)=((48+v:Nat):Int) by omega,wu32 (by omega),wu8 (by omega) (by omega)]
theorem b2g {U len:Nat} {L:List Int} (hL:len≤L.length) (h:∀j,j<len→L[j]? = some ((48+U / 10^(len-1-j) % 10:Nat):Int)):L.take len=dgs U len:=by
 refine dgs_of (by rw[List.length_take];omega) fun j hj => ?_
 rw[List.getElem?_take,if_pos hj];exact h j hj
theorem fb_val (n:Nat) {u len:Nat} (hu:u<18446744073709551616) (hlen:len≤20) (hd:u<10^len) (L0:List Int) (hL0:L0.length=24) :
  ∃L,f0v (n+1) (L0,(0,len)) (u:Int)=some (L,(0,len))∧L.length=24∧L.take len=dgs u len:=by
 obtain ⟨L,h1,h2,h3⟩:=fb_l1 n (U:=u) (len:=len) (by omega) hu (len / 8) a0c len L0 rfl (by unfold a0c;omega) (Nat.le_refl _) (by omega) (fun j hj hj2=>by omega);rw[Nat.sub_self,Nat.pow_zero,Nat.div_one] at h1;rw[n0j]
 change ∃L,a0a (b0y n a0c ((L0,(0,len)),((u:Int),((len:Int),())))) _=_∧_
 rw[h1,obs,b0t];have hv:u / 10^(len-len % 8)<10^(len % 8):=by
  rw[Nat.div_lt_iff_lt_mul (Nat.pow_pos (by omega)),←Nat.pow_add,show len % 8+(len-len % 8)=len by omega];exact hd
 have hk8:len % 8<8:=Nat.mod_lt _ (by omega);have hkl:len % 8≤len:=Nat.mod_le _ _;have hdig:∀i,i<len % 8→u / 10^(len-1-(len % 8-1-i))=u / 10^(len-len % 8) / 10^i:=fun i hi=>dig_at u hkl hi
 rw[hL0] at h2;generalize len % 8=k at *
 generalize u / 10^(len-k)=v at *
 have hv7:v<10000000:=Nat.lt_of_lt_of_le hv (Nat.le_trans (Nat.pow_le_pow_right (by omega) (show k≤7 by omega)) (by decide));have e1:IntKind.wrap .u32 (v:Int)=(v:Int):=wu32 (by omega);have leaf:∀L':List Int,L'.length=24→(∀j,j<len→L'[j]? = some ((48+u / 10^(len-1-j) % 10:Nat):Int))→∃L,some (L',((0:Nat),len))=some (L,(0,len))∧L.length=24∧L.take len=dgs u len :=
  fun L' a b=>⟨L',rfl,a,b2g (by omega) b⟩
 simp only[tfd,e1];by_cases h4:4≤k
 ·rw[if_pos (by omega)];have e2:IntKind.wrap .u32 (Int.tdiv (v:Int) (10000:Int))=((v / 10000:Nat):Int):=by rw[x1k,wu32 (by omega)]
  rw[x1h,e2];generalize hx10:v % 10000=x10;generalize hx:v / 10000=x;have e3:IntKind.wrap .u32 (Int.tdiv (x10:Int) (100:Int))=((x10 / 100:Nat):Int):=by rw[x1l,wu32 (by omega)]
  have e4:IntKind.wrap .u32 (Int.tdiv (x:Int) (100:Int))=((x / 100:Nat):Int):=by rw[x1l,wu32 (by omega)]
  have w1:=q0s (k:=k) (c:=1) (z:=1) rfl (by omega) (by omega);have w2:=q0s (k:=k) (c:=2) (z:=2) rfl (by omega) (by omega);have w3:=q0s (k:=k) (c:=3) (z:=3) rfl (by omega) (by omega);have w4:=q0s (k:=k) (c:=4) (z:=4) rfl (by omega) (by omega);simp only[e3,e4,tm100,w1,w2,w3,w4,Int.toNat_natCast];rw[d0x (sm_lo (x:=x10 % 100) (by omega)),d0x (sm_hi (x:=x10 % 100) (by omega))];rw[a0k (p0p (by omega) (by first | omega | (simp only[List.length_set];omega))),a0k (m0l (by first | omega | (simp only[List.length_set];omega)))]
  rw[a0k (p0p (by omega) (by first | omega | (simp only[List.length_set];omega))),a0k (m0l (by first | omega | (simp only[List.length_set];omega)))];rw[d0x (sm_lo (x:=x10 / 100) (by omega)),d0x (sm_hi (x:=x10 / 100) (by omega))];rw[a0k (p0p (by omega) (by first | omega | (simp only[List.length_set];omega))),a0k (m0l (by first | omega | (simp only[List.length_set];omega)))];rw[a0k (p0p (by omega) (by first | omega | (simp only[List.length_set];omega))),a0k (m0l (by first | omega | (simp only[List.length_set];omega)))]
  by_cases h6:6≤k
  ·rw[if_pos (by omega)];have v1:=q0s (k:=k-4) (c:=1) (z:=1) rfl (by omega) (by omega);have v2:=q0s (k:=k-4) (c:=2) (z:=2) rfl (by omega) (by omega);simp only[v1,v2,Int.toNat_natCast];rw[d0x (sm_lo (x:=x % 100) (by omega)),d0x (sm_hi (x:=x % 100) (by omega))];rw[a0k (p0p (by omega) (by first | omega | (simp only[List.length_set];omega))),a0k (m0l (by first | omega | (simp only[List.length_set];omega)))]
   rw[a0k (p0p (by omega) (by first | omega | (simp only[List.length_set];omega))),a0k (m0l (by first | omega | (simp only[List.length_set];omega)))];by_cases h7:k=7
   ·subst h7;rw[if_pos (by omega)];rw[a0k (s1l (by omega) (by first | omega | (simp only[List.length_set];omega))),a0k (m0l (by first | omega | (simp only[List.length_set];omega)))];rw[y0t (by omega)];simp only[Nat.zero_add];rw[u8d (d:=x10 % 100 % 10) (by omega),u8d (d:=x10 % 100 / 10) (by omega),u8d (d:=x10 / 100 % 10) (by omega),u8d (d:=x10 / 100 / 10) (by omega),u8d (d:=x % 100 % 10) (by omega),u8d (d:=x % 100 / 10) (by omega)];refine leaf _ (by simp only[List.length_set];exact h2) fun j hj => ?_
    by_cases hjk:7≤j
    ·repeat rw[List.getElem?_set_ne (by omega)]
     exact h3 j hjk hj
    ·have hc:j=6∨j=5∨j=4∨j=3∨j=2∨j=1∨j=0:=by omega
     rcases hc with hc | hc | hc | hc | hc | hc | hc
     ·rw[hc,show u / 10^(len-1-(6))=v / 10^0 by have:=hdig 0 (by omega);rwa [show 7-1-0=6 by omega] at this,List.getElem?_set_ne (by omega),List.getElem?_set_ne (by omega),List.getElem?_set_ne (by omega),List.getElem?_set_ne (by omega),List.getElem?_set_ne (by omega),List.getElem?_set_ne (by omega),List.getElem?_set_self (by first | omega | (simp only[List.length_set];omega))];exact d0v (by simp only[Nat.reducePow];simp only[Nat.reducePow] at hv;omega)
     ·rw[hc,show u / 10^(len-1-(5))=v / 10^1 by have:=hdig 1 (by omega);rwa [show 7-1-1=5 by omega] at this,List.getElem?_set_ne (by omega),List.getElem?_set_ne (by omega),List.getElem?_set_ne (by omega),List.getElem?_set_ne (by omega),List.getElem?_set_ne (by omega),List.getElem?_set_self (by first | omega | (simp only[List.length_set];omega))];exact d0v (by simp only[Nat.reducePow];simp only[Nat.reducePow] at hv;omega)
     ·rw[hc,show u / 10^(len-1-(4))=v / 10^2 by have:=hdig 2 (by omega);rwa [show 7-1-2=4 by omega] at this,List.getElem?_set_ne (by omega),List.getElem?_set_ne (by omega),List.getElem?_set_ne (by omega),List.getElem?_set_ne (by omega),List.getElem?_set_self (by first | omega | (simp only[List.length_set];omega))];exact d0v (by simp only[Nat.reducePow];simp only[Nat.reducePow] at hv;omega)
     ·rw[hc,show u / 10^(len-1-(3))=v / 10^3 by have:=hdig 3 (by omega);rwa [show 7-1-3=3 by omega] at this,List.getElem?_set_ne (by omega),List.getElem?_set_ne (by omega),List.getElem?_set_ne (by omega),List.getElem?_set_self (by first | omega | (simp only[List.length_set];omega))];exact d0v (by simp only[Nat.reducePow];simp only[Nat.reducePow] at hv;omega)
     ·rw[hc,show u / 10^(len-1-(2))=v / 10^4 by have:=hdig 4 (by omega);rwa [show 7-1-4=2 by omega] at this,List.getElem?_set_ne (by omega),List.getElem?_set_ne (by omega),List.getElem?_set_self (by first | omega | (simp only[List.length_set];omega))];exact d0v (by simp only[Nat.reducePow];simp only[Nat.reducePow] at hv;omega)
     ·rw[hc,show u / 10^(len-1-(1))=v / 10^5 by have:=hdig 5 (by omega);rwa [show 7-1-5=1 by omega] at this,List.getElem?_set_ne (by omega),List.getElem?_set_self (by first | omega | (simp only[List.length_set];omega))];exact d0v (by simp only[Nat.reducePow];simp only[Nat.reducePow] at hv;omega)
     ·rw[hc,show u / 10^(len-1-(0))=v / 10^6 by have:=hdig 6 (by omega);rwa [show 7-1-6=0 by omega] at this,List.getElem?_set_self (by first | omega | (simp only[List.length_set];omega))];exact d0v (by simp only[Nat.reducePow];simp only[Nat.reducePow] at hv;omega)
   ·have h6':k=6:=by omega
    subst h6';rw[if_neg (by omega)];simp only[Nat.zero_add];rw[u8d (d:=x10 % 100 % 10) (by omega),u8d (d:=x10 % 100 / 10) (by omega),u8d (d:=x10 / 100 % 10) (by omega),u8d (d:=x10 / 100 / 10) (by omega),u8d (d:=x % 100 % 10) (by omega),u8d (d:=x % 100 / 10) (by omega)];refine leaf _ (by simp only[List.length_set];exact h2) fun j hj => ?_
    by_cases hjk:6≤j
    ·repeat rw[List.getElem?_set_ne (by omega)]
     exact h3 j hjk hj
    ·have hc:j=5∨j=4∨j=3∨j=2∨j=1∨j=0:=by omega
     rcases hc with hc | hc | hc | hc | hc | hc
     ·rw[hc,show u / 10^(len-1-(5))=v / 10^0 by have:=hdig 0 (by omega);rwa [show 6-1-0=5 by omega] at this,List.getElem?_set_ne (by omega),List.getElem?_set_ne (by omega),List.getElem?_set_ne (by omega),List.getElem?_set_ne (by omega),List.getElem?_set_ne (by omega),List.getElem?_set_self (by first | omega | (simp only[List.length_set];omega))];exact d0v (by simp only[Nat.reducePow];simp only[Nat.reducePow] at hv;omega)
     ·rw[hc,show u / 10^(len-1-(4))=v / 10^1 by have:=hdig 1 (by omega);rwa [show 6-1-1=4 by omega] at this,List.getElem?_set_ne (by omega),List.getElem?_set_ne (by omega),List.getElem?_set_ne (by omega),List.getElem?_set_ne (by omega),List.getElem?_set_self (by first | omega | (simp only[List.length_set];omega))];exact d0v (by simp only[Nat.reducePow];simp only[Nat.reducePow] at hv;omega)
     ·rw[hc,show u / 10^(len-1-(3))=v / 10^2 by have:=hdig 2 (by omega);rwa [show 6-1-2=3 by omega] at this,List.getElem?_set_ne (by omega),List.getElem?_set_ne (by omega),List.getElem?_set_ne (by omega),List.getElem?_set_self (by first | omega | (simp only[List.length_set];omega))];exact d0v (by simp only[Nat.reducePow];simp only[Nat.reducePow] at hv;omega)
     ·rw[hc,show u / 10^(len-1-(2))=v / 10^3 by have:=hdig 3 (by omega);rwa [show 6-1-3=2 by omega] at this,List.getElem?_set_ne (by omega),List.getElem?_set_ne (by omega),List.getElem?_set_self (by first | omega | (simp only[List.length_set];omega))];exact d0v (by simp only[Nat.reducePow];simp only[Nat.reducePow] at hv;omega)
     ·rw[hc,show u / 10^(len-1-(1))=v / 10^4 by have:=hdig 4 (by omega);rwa [show 6-1-4=1 by omega] at this,List.getElem?_set_ne (by omega),List.getElem?_set_self (by first | omega | (simp only[List.length_set];omega))];exact d0v (by simp only[Nat.reducePow];simp only[Nat.reducePow] at hv;omega)
     ·rw[hc,show u / 10^(len-1-(0))=v / 10^5 by have:=hdig 5 (by omega);rwa [show 6-1-5=0 by omega] at this,List.getElem?_set_self (by first | omega | (simp only[List.length_set];omega))];exact d0v (by simp only[Nat.reducePow];simp only[Nat.reducePow] at hv;omega)
  ·rw[if_neg (by omega)];by_cases h5:k=5
   ·subst h5;rw[if_pos (by omega)];rw[a0k (s1l (by omega) (by first | omega | (simp only[List.length_set];omega))),a0k (m0l (by first | omega | (simp only[List.length_set];omega)))];have hx9:x<10:=by simp only[Nat.reducePow] at hv;omega
    rw[y0t hx9];simp only[Nat.zero_add];rw[u8d (d:=x10 % 100 % 10) (by omega),u8d (d:=x10 % 100 / 10) (by omega),u8d (d:=x10 / 100 % 10) (by omega),u8d (d:=x10 / 100 / 10) (by omega)];refine leaf _ (by simp only[List.length_set];exact h2) fun j hj => ?_
    by_cases hjk:5≤j
    ·repeat rw[List.getElem?_set_ne (by omega)]
     exact h3 j hjk hj
    ·have hc:j=4∨j=3∨j=2∨j=1∨j=0:=by omega
     rcases hc with hc | hc | hc | hc | hc
     ·rw[hc,show u / 10^(len-1-(4))=v / 10^0 by have:=hdig 0 (by omega);rwa [show 5-1-0=4 by omega] at this,List.getElem?_set_ne (by omega),List.getElem?_set_ne (by omega),List.getElem?_set_ne (by omega),List.getElem?_set_ne (by omega),List.getElem?_set_self (by first | omega | (simp only[List.length_set];omega))];exact d0v (by simp only[Nat.reducePow];simp only[Nat.reducePow] at hv;omega)
     ·rw[hc,show u / 10^(len-1-(3))=v / 10^1 by have:=hdig 1 (by omega);rwa [show 5-1-1=3 by omega] at this,List.getElem?_set_ne (by omega),List.getElem?_set_ne (by omega),List.getElem?_set_ne (by omega),List.getElem?_set_self (by first | omega | (simp only[List.length_set];omega))];exact d0v (by simp only[Nat.reducePow];simp only[Nat.reducePow] at hv;omega)
     ·rw[hc,show u / 10^(len-1-(2))=v / 10^2 by have:=hdig 2 (by omega);rwa [show 5-1-2=2 by omega] at this,List.getElem?_set_ne (by omega),List.getElem?_set_ne (by omega),List.getElem?_set_self (by first | omega | (simp only[List.length_set];omega))];exact d0v (by simp only[Nat.reducePow];simp only[Nat.reducePow] at hv;omega)
     ·rw[hc,show u / 10^(len-1-(1))=v / 10^3 by have:=hdig 3 (by omega);rwa [show 5-1-3=1 by omega] at this,List.getElem?_set_ne (by omega),List.getElem?_set_self (by first | omega | (simp only[List.length_set];omega))];exact d0v (by simp only[Nat.reducePow];simp only[Nat.reducePow] at hv;omega)
     ·rw[hc,show u / 10^(len-1-(0))=v / 10^4 by have:=hdig 4 (by omega);rwa [show 5-1-4=0 by omega] at this,List.getElem?_set_self (by first | omega | (simp only[List.length_set];omega))];exact d0v (by simp only[Nat.reducePow];simp only[Nat.reducePow] at hv;omega)
   ·have h4':k=4:=by omega
    subst h4';rw[if_neg (by omega)];simp only[Nat.zero_add];rw[u8d (d:=x10 % 100 % 10) (by omega),u8d (d:=x10 % 100 / 10) (by omega),u8d (d:=x10 / 100 % 10) (by omega),u8d (d:=x10 / 100 / 10) (by omega)];refine leaf _ (by simp only[List.length_set];exact h2) fun j hj => ?_
    by_cases hjk:4≤j
    ·repeat rw[List.getElem?_set_ne (by omega)]
     exact h3 j hjk hj
    ·have hc:j=3∨j=2∨j=1∨j=0:=by omega
     rcases hc with hc | hc | hc | hc
     ·rw[hc,show u / 10^(len-1-(3))=v / 10^0 by have:=hdig 0 (by omega);rwa [show 4-1-0=3 by omega] at this,List.getElem?_set_ne (by omega),List.getElem?_set_ne (by omega),List.getElem?_set_ne (by omega),List.getElem?_set_self (by first | omega | (simp only[List.length_set];omega))];exact d0v (by simp only[Nat.reducePow];simp only[Nat.reducePow] at hv;omega)
     ·rw[hc,show u / 10^(len-1-(2))=v / 10^1 by have:=hdig 1 (by omega);rwa [show 4-1-1=2 by omega] at this,List.getElem?_set_ne (by omega),List.getElem?_set_ne (by omega),List.getElem?_set_self (by first | omega | (simp only[List.length_set];omega))];exact d0v (by simp only[Nat.reducePow];simp only[Nat.reducePow] at hv;omega)
     ·rw[hc,show u / 10^(len-1-(1))=v / 10^2 by have:=hdig 2 (by omega);rwa [show 4-1-2=1 by omega] at this,List.getElem?_set_ne (by omega),List.getElem?_set_self (by first | omega | (simp only[List.length_set];omega))];exact d0v (by simp only[Nat.reducePow];simp only[Nat.reducePow] at hv;omega)
     ·rw[hc,show u / 10^(len-1-(0))=v / 10^3 by have:=hdig 3 (by omega);rwa [show 4-1-3=0 by omega] at this,List.getElem?_set_self (by first | omega | (simp only[List.length_set];omega))];exact d0v (by simp only[Nat.reducePow];simp only[Nat.reducePow] at hv;omega)
 ·rw[if_neg (by omega)];have e4:IntKind.wrap .u32 (Int.tdiv (v:Int) (100:Int))=((v / 100:Nat):Int):=by rw[x1l,wu32 (by omega)]
  by_cases h2':2≤k
  ·rw[if_pos (by omega)];have w1:=q0s (k:=k) (c:=1) (z:=1) rfl (by omega) (by omega);have w2:=q0s (k:=k) (c:=2) (z:=2) rfl (by omega) (by omega);simp only[e4,tm100,w1,w2,Int.toNat_natCast];rw[d0x (sm_lo (x:=v % 100) (by omega)),d0x (sm_hi (x:=v % 100) (by omega))];rw[a0k (p0p (by omega) (by first | omega | (simp only[List.length_set];omega))),a0k (m0l (by first | omega | (simp only[List.length_set];omega)))]
   rw[a0k (p0p (by omega) (by first | omega | (simp only[List.length_set];omega))),a0k (m0l (by first | omega | (simp only[List.length_set];omega)))];by_cases h3':k=3
   ·subst h3';rw[if_pos (by omega)];rw[a0k (s1l (by omega) (by first | omega | (simp only[List.length_set];omega))),a0k (m0l (by first | omega | (simp only[List.length_set];omega)))];have hx9:v / 100<10:=by simp only[Nat.reducePow] at hv;omega
    rw[y0t hx9];simp only[Nat.zero_add];rw[u8d (d:=v % 100 % 10) (by omega),u8d (d:=v % 100 / 10) (by omega)];refine leaf _ (by simp only[List.length_set];exact h2) fun j hj => ?_
    by_cases hjk:3≤j
    ·repeat rw[List.getElem?_set_ne (by omega)]
     exact h3 j hjk hj
    ·have hc:j=2∨j=1∨j=0:=by omega
     rcases hc with hc | hc | hc
     ·rw[hc,show u / 10^(len-1-(2))=v / 10^0 by have:=hdig 0 (by omega);rwa [show 3-1-0=2 by omega] at this,List.getElem?_set_ne (by omega),List.getElem?_set_ne (by omega),List.getElem?_set_self (by first | omega | (simp only[List.length_set];omega))];exact d0v (by simp only[Nat.reducePow];simp only[Nat.reducePow] at hv;omega)
     ·rw[hc,show u / 10^(len-1-(1))=v / 10^1 by have:=hdig 1 (by omega);rwa [show 3-1-1=1 by omega] at this,List.getElem?_set_ne (by omega),List.getElem?_set_self (by first | omega | (simp only[List.length_set];omega))];exact d0v (by simp only[Nat.reducePow];simp only[Nat.reducePow] at hv;omega)
     ·rw[hc,show u / 10^(len-1-(0))=v / 10^2 by have:=hdig 2 (by omega);rwa [show 3-1-2=0 by omega] at this,List.getElem?_set_self (by first | omega | (simp only[List.length_set];omega))];exact d0v (by simp only[Nat.reducePow];simp only[Nat.reducePow] at hv;omega)
   ·have h2'':k=2:=by omega
    subst h2'';rw[if_neg (by omega)];simp only[Nat.zero_add];rw[u8d (d:=v % 100 % 10) (by omega),u8d (d:=v % 100 / 10) (by omega)];refine leaf _ (by simp only[List.length_set];exact h2) fun j hj => ?_
    by_cases hjk:2≤j
    ·repeat rw[List.getElem?_set_ne (by omega)]
     exact h3 j hjk hj
    ·have hc:j=1∨j=0:=by omega
     rcases hc with hc | hc
     ·rw[hc,show u / 10^(len-1-(1))=v / 10^0 by have:=hdig 0 (by omega);rwa [show 2-1-0=1 by omega] at this,List.getElem?_set_ne (by omega),List.getElem?_set_self (by first | omega | (simp only[List.length_set];omega))];exact d0v (by simp only[Nat.reducePow];simp only[Nat.reducePow] at hv;omega)
     ·rw[hc,show u / 10^(len-1-(0))=v / 10^1 by have:=hdig 1 (by omega);rwa [show 2-1-1=0 by omega] at this,List.getElem?_set_self (by first | omega | (simp only[List.length_set];omega))];exact d0v (by simp only[Nat.reducePow];simp only[Nat.reducePow] at hv;omega)
  ·rw[if_neg (by omega)];by_cases h1':k=1
   ·subst h1';rw[if_pos (by omega)];rw[a0k (s1l (by omega) (by omega)),a0k (m0l (by omega))];have hx9:v<10:=by simpa using hv
    rw[y0t hx9];simp only[Nat.zero_add];refine leaf _ (by simp only[List.length_set];exact h2) fun j hj => ?_
    by_cases hjk:1≤j
    ·rw[List.getElem?_set_ne (by omega)];exact h3 j hjk hj
    ·have hc:j=0:=by omega
     rcases hc with hc
     ·rw[hc,show u / 10^(len-1-(0))=v / 10^0 by have:=hdig 0 (by omega);rwa [show 1-1-0=0 by omega] at this,List.getElem?_set_self (by first | omega | (simp only[List.length_set];omega))];exact d0v (by simp only[Nat.reducePow];simp only[Nat.reducePow] at hv;omega)
   ·rw[if_neg (by omega)];exact leaf _ h2 fun j hj=>h3 j (by omega) hj
theorem l0n (n:Nat) {u:Nat} (h:u<18446744073709551616) (dst:List Int) (hd:dst.length≤1000000):b0v (n+3) dst (u:Int) (10:Int)=some (dst++decI u):=by
 have hlen:(decI u).length≤20:=by unfold decI;rw[l0m];exact l1f h
 rw[o0n];simp only[tfd];rw[if_pos trivial];by_cases hs:u<100
 ·have e:(List.map (fun y=>((UInt8.toNat y:Nat):Int)) (toB (decI u)))=decI u:=w1l fun x hx=>by have:=w0h u x hx;omega
  rw[if_pos (by omega),w64 (by omega) (by omega),x1z (n+1) hs,obs,e,if_pos (by omega)]
 ·have hnd:=l1f h;rw[if_neg (by omega),g1q n (by omega) h,obs,c0r,if_pos (by simp only[Bool.and_eq_true,decide_eq_true_eq];omega),Int.toNat_natCast,Nat.sub_zero];obtain ⟨L,h1,h2,h3⟩:=fb_val (n+1) h hnd (ndg_hi h) (List.replicate 24 (0:Int)) List.length_replicate;rw[h1,obs,c0r,if_pos (by simp[h2]),if_pos h2,c0r,if_pos (by simp only[Bool.and_eq_true,decide_eq_true_eq];omega),List.drop_zero,h3,if_pos (by rw[l0m];omega)];rfl
theorem o0f (n:Nat) {i:Int} (h0 : -9223372036854775808≤i) (h1:i≤9223372036854775807) (dst:List Int) (hd:dst.length≤900000):d0b (n+5) dst i (10:Int)=some (dst++itoI i):=by
 rw[q0y,o0u];simp only[tfd];unfold itoI;by_cases hn:i<0
 ·rw[if_pos hn,if_pos hn,if_pos (by omega)];have e:IntKind.wrap .u64 ((0:Int)-(IntKind.wrap .u64 i))=((i.natAbs:Nat):Int):=by rw[IntKind.wrap_u64,IntKind.wrap_u64];omega
  rw[e,l0n n (by omega) _ (by simp only[List.length_append,List.length_cons,List.length_nil];omega),obs,obs,List.append_assoc];rfl
 ·rw[if_neg hn,if_neg hn,wu64 (by omega) (by omega)];have e:i=((i.toNat:Nat):Int):=by omega
  rw[show b0v (n+3) dst i 10=b0v (n+3) dst ((i.toNat:Nat):Int) 10 by rw[←e],l0n n (by omega) _ (by omega),obs,obs]
theorem h1g {i:Int} (h0 : -9223372036854775808≤i) (h1:i≤9223372036854775807):(itoI i).length≤21:=by
 unfold itoI decI;split
 ·rw[List.length_cons,l0m];have:=l1f (u:=i.natAbs) (by omega);omega
 ·rw[l0m];have:=l1f (u:=i.toNat) (by omega);omega
theorem same5_l (n:Nat) (a b:List Lab) (hL:a.length≤9223372036854775807):∀(ra rb pa pb:List Lab) (f:Nat) (ix len:Int),a=pa++ra→b=pb++rb→pa.length=pb.length→ra.length=rb.length→ix=pa.length→len=a.length→ra.length<f →
  k0j n f (a,b,len,ix,())=some (if ra=rb then .inl () else .inr false):=by
 intro ra;induction ra with
 | nil =>
  intro rb pa pb f ix len ha hb hp hr hi hn hf;obtain ⟨f,rfl⟩:∃g,f=g+1:=⟨f-1,by simp at hf;omega⟩;have e:rb=[]:=List.length_eq_zero_iff.1 (by simpa using hr.symm);subst e;rw[i0b,decide_eq_false (idxe ha hi hn),tff,if_pos rfl]
 | cons x ra ih =>
  intro rb pa pb f ix len ha hb hp hr hi hn hf;obtain ⟨f,rfl⟩:∃g,f=g+1:=⟨f-1,by simp at hf;omega⟩;cases rb with
  | nil=>simp at hr
  | cons y rb =>
   have hlen:=congrArg List.length ha;simp at hlen;rw[i0b,decide_eq_true (idx ha hi hn),tft,c0h ha hi,c0h hb (by omega)];simp only[obs,labEq];rw[w64 (x:=ix+1) (by omega) (by omega)];by_cases h:x=y
   ·subst h;simp only[decide_true,Bool.not_true,tff];rw[ih rb (pa++[x]) (pb++[x]) f (ix+1) len (idxl ha) (idxl hb) (by simp;omega) (by simpa using hr) (idxs hi) hn (by simp at hf;omega)];simp
   ·rw[if_neg (by simp[h])];simp only[decide_eq_false h,Bool.not_false,tft]
theorem same5 (n:Nat) (a b:List Lab) (hL:a.length≤9223372036854775807):g1g (n+1) a b=some (decide (a=b)):=by
 rw[o1j];by_cases h:a.length=b.length
 ·rw[decide_eq_true (show ((a.length:Nat):Int)=(b.length:Nat) by omega)];simp only[Bool.not_true,tff];rw[same5_l n a b hL a b [] [] a0c 0 _ rfl rfl rfl h rfl rfl (by unfold a0c;omega)];by_cases h':a=b
  ·rw[if_pos h',decide_eq_true h'];rfl
  ·rw[if_neg h',decide_eq_false h'];rfl
 ·rw[decide_eq_false (show ¬((a.length:Nat):Int)=(b.length:Nat) by omega),decide_eq_false (fun k:a=b=>h (by rw[k]))];rfl
abbrev ActT:=Int×(List Lab×(Ev×(Int×(Int×(Int×Int)))))
def nt (i:Int):List UInt8:=toB (itoI i)
theorem r1f {i:Int} (h:I64 i):(nt i).length≤21:=by
 have:=h1g h.1 h.2;unfold nt;rw[p0u];exact this
structure ActW (a:ActT):Prop where
 l:a.2.1.length≤1000000
 e:EvW a.2.2.1
 t:I64 a.2.2.2.1
 fa:I64 a.2.2.2.2.1
 fb:I64 a.2.2.2.2.2.1
 fn:I64 a.2.2.2.2.2.2
def told (a:ActT):ActT :=
 if a.1=1 then (1,a.2.1,(if a.2.2.1.2.2.2=true then (a.2.2.1.1,0,0,true) else a.2.2.1),0,0,0,0)
 else if a.1=5 then (5,a.2.1,e0,a.2.2.2.1,a.2.2.2.2.1,a.2.2.2.2.2.1,0)
 else if a.1=6 then (6,[],e0,a.2.2.2.1,a.2.2.2.2.1,a.2.2.2.2.2.1,0)
 else if a.1=2∨a.1=8∨a.1=9 then (a.1,[],e0,0,0,0,a.2.2.2.2.2.2)
 else (a.1,[],e0,0,0,0,0)
def wTick:List UInt8:=[116,105,99,107]
def wArm:List UInt8:=[97,114,109]
def wLoad:List UInt8:=[108,111,97,100]
def wSweep:List UInt8:=[115,119,101,101,112]
def wFlush:List UInt8:=[102,108,117,115,104]
def wDump:List UInt8:=[100,117,109,112]
def wWrite:List UInt8:=[119,114,105,116,101]
def d1b:List UInt8:=[115,116,97,108,101]
def wAsk:List UInt8:=[97,115,107]
def wTotal:List UInt8:=[116,111,116,97,108]
def okK (a:ActT):Prop :=
 if a.1=1 then (0≤a.2.2.1.1∧(a.2.2.1.2.2.2=true∨0≤a.2.2.1.2.2.1))∧LabOk a.2.1
 else if a.1=5 then (0≤a.2.2.2.1∧0≤a.2.2.2.2.1∧0≤a.2.2.2.2.2.1)∧LabOk a.2.1
 else if a.1=6 then 0≤a.2.2.2.1∧0≤a.2.2.2.2.1∧0≤a.2.2.2.2.2.1
 else if a.1=2∨a.1=8∨a.1=9 then 0≤a.2.2.2.2.2.2
 else a.1=3∨a.1=4∨a.1=7
def txtA (a:ActT):List UInt8 :=
 if a.1=1 then (if a.2.2.1.2.2.2=true then d1b++32::nt a.2.2.1.1 else wWrite++32::(toB (decI a.2.2.1.2.1.toNat)++32::(nt a.2.2.1.1++32::nt a.2.2.1.2.2.1)))++32::j0e a.2.1
 else if a.1=5 then wAsk++32::(nt a.2.2.2.1++32::(nt a.2.2.2.2.1++32::(nt a.2.2.2.2.2.1++32::j0e a.2.1)))
 else if a.1=6 then wTotal++32::(nt a.2.2.2.1++32::(nt a.2.2.2.2.1++32::nt a.2.2.2.2.2.1))
 else if a.1=2 then wTick++32::nt a.2.2.2.2.2.2
 else if a.1=8 then wArm++32::nt a.2.2.2.2.2.2
 else if a.1=9 then wLoad++32::nt a.2.2.2.2.2.2
 else if a.1=3 then wSweep
 else if a.1=4 then wFlush
 else if a.1=7 then wDump
 else []
def good (a:ActT):Prop:=okK a∧told a=a∧(txtA a).length≤4096
theorem p1o {v:Int} (h0:0≤v) (h1:v≤18446744073709551615):(toB (decI v.toNat)).length≤20:=by
 unfold decI;rw[p0u,l0m];exact l1f (by omega)
theorem nt_nn {x:Int} (h:0≤x):nt x=toB (decI x.toNat):=by
 unfold nt itoI;rw[if_neg (by omega)]
theorem d1v (M:Nat) (r:List UInt8):∀(l:List UInt8) (acc:Nat),Lib.parseUintM M acc (l++r)=match Lib.parseUintM M acc l with | .ok a=>Lib.parseUintM M a r | Lib.NumEnd.syntax=>Lib.NumEnd.syntax | .range => .range
 | [],acc=>rfl
 | c::l,acc=>by
  simp only[List.cons_append,Lib.parseUintM];split
  ·split
   ·rfl
   split
   ·rfl
   ·exact d1v M r l _
  ·rfl
theorem k1r (M:Nat):∀(l:List UInt8) (acc u:Nat),acc≤M→Lib.parseUintM M acc l = .ok u→u≤M
 | [],acc,u,h,e=>by
  unfold Lib.parseUintM at e;injection e with e;omega
 | c::l,acc,u,h,e=>by
  unfold Lib.parseUintM at e;split at e
  ·split at e
   ·cases e
   split at e
   ·cases e
   ·exact k1r M l _ u (by omega) e
  ·cases e
theorem d1t (M:Nat) (hM:M≤18446744073709551615):∀(k u:Nat),u≤k→u≤M→Lib.parseUintM M 0 (toB (decI u)) = .ok u:=by
 intro k;induction k with
 | zero =>
  intro u hk hu;have:u=0:=by omega
  subst this;rw[e1o (by omega)];show Lib.parseUintM M 0 [48]=_;unfold Lib.parseUintM;rw[if_pos (by decide),if_neg (by omega),if_neg (by simp)];rfl
 | succ k ih =>
  intro u hk hu;have dig:∀d:Nat,d<10→(UInt8.ofNat (48+d)).toNat=48+d:=fun d hd=>by rw[UInt8.toNat_ofNat'];omega
  by_cases h:u<10
  ·rw[e1o h];show Lib.parseUintM M 0 [UInt8.ofNat (Int.toNat ((48+u:Nat):Int))]=_;rw[Int.toNat_natCast];unfold Lib.parseUintM;rw[dig u h,if_pos (by omega),if_neg (by omega),if_neg (by omega)];unfold Lib.parseUintM;congr 1;omega
  ·rw[c2b (by omega) (by omega),t1c,d1v,ih (u / 10) (by omega) (by omega)];show Lib.parseUintM M (u / 10) [UInt8.ofNat (Int.toNat ((48+u % 10:Nat):Int))]=_;rw[Int.toNat_natCast];unfold Lib.parseUintM;rw[dig (u % 10) (by omega),if_pos (by omega),if_neg (by omega),if_neg (by omega)];unfold Lib.parseUintM;congr 1;omega
theorem p1p (u:Nat):toB (decI u)≠[]:=by
 intro h;have:=congrArg List.length h;unfold decI at this;rw[p0u,l0m] at this;have:=ndg_pos u;simp at *;omega
theorem puV_dec (B:Nat) (hB:2^B-1≤18446744073709551615) {u:Nat} (hu:u≤2^B-1):puV B (toB (decI u))=((u:Int),false):=by
 unfold puV Lib.parseUintB;rw[if_neg (p1p u),d1t (2^B-1) hB u u (Nat.le_refl _) hu]
theorem y1s (B:Nat) (l:List UInt8):0≤(puV B l).1∧(puV B l).1≤((2^B-1:Nat):Int):=by
 unfold puV Lib.parseUintB;split
 ·rename_i u h;split at h
  ·cases h
  ·have:=k1r (2^B-1) l 0 u (by omega) h;exact ⟨by simp,by show (u:Int)≤_;omega⟩
 ·exact ⟨by simp,by simp⟩
 ·exact ⟨by simp,by simp⟩
def rs (s:List UInt8):List UInt8:=(cutV s [32]).2.1
theorem c2a (u:Nat) {c:UInt8} (hc:c.toNat<48):c ∉ toB (decI u):=by
 intro h;simp only[toB,List.mem_map] at h;obtain ⟨x,hx,he⟩:=h;have hr:=w0h u x hx;have:=congrArg UInt8.toNat he;rw[UInt8.toNat_ofNat'] at this;omega
theorem l1j (n:Nat) (l:List Lab) (hl:l.length≤9223372036854775807):∀(k f i:Nat),40-i=k→i≤40→i≤l.length →
  ∃z:Unit ⊕ Int,e0y n (f+k+1) (l,(l.length:Int),(i:Int),())=some z∧((z = .inl ()∧l.length≤40)∨z = .inr 0):=by
 intro k;induction k with
 | zero =>
  intro f i h hi hil;rw[g0y];simp only[c0r,decide_eq_true_eq];by_cases h1:(i:Int)<(l.length:Int)
  ·have hx:at? l (i:Int)=some l[i]:=by simp[at?]
   rw[if_pos h1,hx,obs,if_pos (by omega)];exact ⟨_,rfl,.inr rfl⟩
  ·rw[if_neg h1];exact ⟨_,rfl,.inl ⟨rfl,by omega⟩⟩
 | succ k ih =>
  intro f i h hi hil;rw[show f+(k+1)+1=(f+k+1)+1 by omega,g0y];simp only[c0r,decide_eq_true_eq];by_cases h1:(i:Int)<(l.length:Int)
  ·have hx:at? l (i:Int)=some l[i]:=by simp[at?]
   rw[if_pos h1,hx,obs,if_neg (by omega)];by_cases h2:(1000:Int)<((l[i].1.length:Nat):Int)
   ·rw[if_pos h2];exact ⟨_,rfl,.inr rfl⟩
   rw[if_neg h2];by_cases h3:(1000:Int)<((l[i].2.length:Nat):Int)
   ·rw[if_pos h3];exact ⟨_,rfl,.inr rfl⟩
   rw[if_neg h3,w64 (by omega) (by omega),show (i:Int)+1=((i+1:Nat):Int) by omega];exact ih f (i+1) (by omega) (by omega) (by omega)
  ·rw[if_neg h1];exact ⟨_,rfl,.inl ⟨rfl,by omega⟩⟩
theorem v1e (n:Nat) (l:List Lab) (hl:l.length≤9223372036854775807):k0l (n+1) l=some 0∨(k0l (n+1) l=some 1∧l.length≤40):=by
 rw[x0d];obtain ⟨z,h1,h2⟩:=l1j n l hl 40 (a0c-41) 0 rfl (by omega) (by omega);rw[show a0c-41+40+1=a0c by unfold a0c;omega] at h1;have h1':e0y n a0c (l,(l.length:Int),0,())=some z:=h1;rw[h1',obs];rcases h2 with ⟨rfl,h⟩ | rfl
 ·exact .inr ⟨rfl,h⟩
 ·exact .inl rfl
abbrev RowT:=List Lab×Ev
def evT (e:Ev):List UInt8 :=
 32::((if e.2.2.2=true then d1b else toB (decI e.2.1.toNat))++32::(nt e.1++(if 0<e.2.2.1 then 32::99::nt e.2.2.1 else [])))
def c0f (r:RowT):List UInt8:=j0e r.1++evT r.2
theorem p1h {e:Ev} (h:EvW e):(evT e).length≤100:=by
 have h1:=r1f h.t;have h2:=r1f h.c;have h3:=p1o h.v.1 h.v.2;unfold evT;have h4:d1b.length=5:=rfl;split<;>split<;>simp<;>omega
theorem ti_len (s:List UInt8):(List.map (fun y=>(((UInt8.toNat y):Nat):Int)) s).length=s.length:=by simp
theorem toB_map (s:List UInt8):toB (List.map (fun y=>(((UInt8.toNat y):Nat):Int)) s)=s:=t1b s
theorem x1g (a b:List Int):toB (a++b)=toB a++toB b:=by simp[toB]
theorem appendU2 (n:Nat) (dst:List Int) (hd:dst.length≤1000000) {v:Int} (h0:0≤v) (h1:v≤18446744073709551615):g0n (n+4) dst v 10=some (dst++decI v.toNat):=by
 have e:v=((v.toNat:Nat):Int):=by omega
 have:=l0n n (u:=v.toNat) (by omega) dst hd;rw[←e] at this;rw[o0t,this,obs]
theorem decI_len {v:Int} (h0:0≤v) (h1:v≤18446744073709551615):(decI v.toNat).length≤20:=by
 have:=p1o h0 h1;rw[p0u] at this;exact this
theorem toBm (l:List Int):List.map (fun y=>UInt8.ofNat (Int.toNat y)) l=toB l:=rfl
theorem z0m (n:Nat) (r:RowT) (hw:EvW r.2):l0q (n+8) r=some (if LabOk r.1 then (if EvOk r.2 then (c0f r,0) else ([],2)) else ([],8)):=by
 rw[j1r,v1f n r.1,obs];by_cases hl:LabOk r.1
 ·rw[if_pos hl,if_pos hl];have hlen:=t0b hl;simp only[tfd,decide_true,Bool.not_true,tff];rw[f0b (n+6) hw,obs];by_cases he:EvOk r.2
  ·rw[if_pos he,if_pos he];have hT:=hw.t;have hV:=hw.v;have hC:=hw.c;have hTl:=h1g hT.1 hT.2;have hCl:=h1g hC.1 hC.2;obtain ⟨L,hL⟩:∃L,L=List.map (fun y=>(((UInt8.toNat y):Nat):Int)) (j0e r.1):=⟨_,rfl⟩;have hLb:toB L=j0e r.1:=by rw[hL,toB_map]
   have hLl:L.length≤10000:=by rw[hL,ti_len];exact hlen
   rw[if_pos (by omega)];simp only[←hL];have hd:=decI_len hV.1 hV.2;have c1:(L.length+1)*1≤140737488355328:=by omega
   rw[if_pos c1];cases hst:r.2.2.2.2 with
   | true =>
    obtain ⟨hv0,hc0⟩:=he.st hst;rw[tft,if_pos (by simp;omega),if_pos (by simp;omega),o0f (n+2) hT.1 hT.2 _ (by simp;omega),obs,hc0,if_neg (by omega)];simp only[toBm,x1g,hLb];simp[c0f,evT,hst,hc0,nt,toB,d1b]
   | false =>
    rw[tff,appendU2 (n+3) _ (by simp;omega) hV.1 hV.2,obs,if_pos (by simp;omega),o0f (n+2) hT.1 hT.2 _ (by simp;omega),obs];by_cases hc:0<r.2.2.2.1
    ·rw[if_pos hc,if_pos (by simp;omega),if_pos (by simp;omega),o0f (n+2) hC.1 hC.2 _ (by simp;omega),obs];simp only[toBm,x1g,hLb];simp[c0f,evT,hst,hc,nt,toB]
    ·rw[if_neg hc];simp only[toBm,x1g,hLb];simp[c0f,evT,hst,hc,nt,toB]
  ·rw[if_neg he,if_neg he];rfl
 ·rw[if_neg hl,if_neg hl];rfl
theorem y0n (c:UInt8):∀s:List UInt8,c ∉ s∨∃a t,s=a++c::t∧c ∉ a
 | [] => .inl (by simp)
 | d::s=>by
  by_cases hc:d=c
  ·exact .inr ⟨[],s,by rw[hc];rfl,by simp⟩
  ·rcases y0n c s with h | ⟨a,t,h1,h2⟩
   ·exact .inl (by simp;exact ⟨fun e=>hc e.symm,h⟩)
   ·exact .inr ⟨d::a,t,by rw[h1];rfl,by simp;exact ⟨fun e=>hc e.symm,h2⟩⟩
def splC (c:UInt8):List UInt8→List (List UInt8)
 | []=>[[]]
 | d::t=>if d=c then []::splC c t else match splC c t with | []=>[[d]] | w::ws=>(d::w)::ws
theorem t0i (c d:UInt8) (t:List UInt8):splC c (d::t)=if d=c then []::splC c t else match splC c t with | []=>[[d]] | w::ws=>(d::w)::ws:=by rw[splC]
theorem z0s {c:UInt8}:∀ {s:List UInt8},c ∉ s→splC c s=[s]
 | [],_=>rfl
 | d::s,h=>by
  have hd:¬d=c:=fun e=>h (by rw[e];exact List.mem_cons_self)
  rw[t0i,if_neg hd,z0s (s:=s) fun k=>h (List.mem_cons_of_mem _ k)]
theorem h0g {c:UInt8} (t:List UInt8):∀ {a:List UInt8},c ∉ a→splC c (a++c::t)=a::splC c t
 | [],_=>by
  show splC c (c::t)=_;rw[t0i,if_pos rfl]
 | d::a,h=>by
  have hd:¬d=c:=fun e=>h (by rw[e];exact List.mem_cons_self)
  show splC c (d::(a++c::t))=_;rw[t0i,if_neg hd,h0g t (a:=a) fun k=>h (List.mem_cons_of_mem _ k)]
theorem y0x {c:UInt8} {s:List UInt8} (h:c ∉ s):Lib.count s [c]=0:=Lib.count_miss (r1r rfl h)
theorem s1d {c:UInt8} {a:List UInt8} (t:List UInt8) (h:c ∉ a):Lib.count (a++c::t) [c]=1+Lib.count t [c]:=by
 have:=Lib.count_hit (s:=a++c::t) (sub:=[c]) (by simp) (h1h (sub:=[c]) (r:=[]) (a:=a) (t:=t) rfl h);rw[this];congr 2;rw[←List.drop_drop,List.drop_left];rfl
theorem c2e (c:UInt8):∀(k:Nat) (s:List UInt8),s.length≤k→Lib.count s [c]≤s.length∧(Lib.count s [c]=0→c ∉ s):=by
 intro k;induction k with
 | zero =>
  intro s hs;have:s=[]:=List.eq_nil_of_length_eq_zero (by omega);subst this;rw[y0x (by simp)];simp
 | succ k ih =>
  intro s hs;rcases y0n c s with h | ⟨a,t,rfl,h⟩
  ·rw[y0x h];exact ⟨Nat.zero_le _,fun _=>h⟩
  ·rw[s1d t h];simp at hs;have:=(ih t (by omega)).1;exact ⟨by simp;omega,fun e=>by omega⟩
theorem q1p {α:Type} {l:List α} {k:Nat} (h:l.length=k+1) (x:α):l.set k x=l.take k++[x]:=by
 rw[List.set_eq_take_append_cons_drop,if_pos (by omega),List.drop_eq_nil_of_le (by omega)]
theorem p1e (n:Nat) (N:Nat) (hN:N≤2000000):∀(k:Nat) (s:List UInt8) (A:List (List UInt8)) (i f:Nat),s.length≤k→s.length≤1000000→A.length=N+1→i+Lib.count s [32]=N→s.length<f →
  ∃s' A',b0z (n+2) f (s,[32],0,(N:Int),A,(i:Int),())=some (.inl (s',A',(N:Int),()))∧A'.length=N+1∧A'.take N++[s']=A.take i++splC 32 s:=by
 intro k;induction k with
 | zero =>
  intro s A i f hs _ hA hc hf;have:s=[]:=List.eq_nil_of_length_eq_zero (by omega);subst this;rw[y0x (by simp)] at hc;obtain ⟨f,rfl⟩:∃g,f=g+1:=⟨f-1,by omega⟩;rw[g0m,tfd,if_neg (by omega)];have:i=N:=by omega
  subst this;exact ⟨[],A,rfl,hA,rfl⟩
 | succ k ih =>
  intro s A i f hs hl hA hc hf;obtain ⟨f,rfl⟩:∃g,f=g+1:=⟨f-1,by omega⟩;rw[g0m,tfd];rcases y0n 32 s with h | ⟨a,t,rfl,h⟩
  ·rw[y0x h] at hc;have:i=N:=by omega
   subst this;rw[if_neg (by omega)];exact ⟨s,A,rfl,hA,by rw[z0s h]⟩
  ·rw[s1d t h] at hc;simp at hs hl hf;have hidx:Lib.index (a++32::t) [32]=(a.length:Int):=h1h (sub:=[32]) (r:=[]) (a:=a) (t:=t) rfl h;rw[if_pos (by omega),x0r,i0y,a1v,tfd,if_pos (by simp;omega),obs,obs,hidx,tfd,if_neg (by omega)];have w0:IntKind.wrap .i64 ((a.length:Int)+0)=(a.length:Int):=by rw[w64 (by omega) (by omega)];omega
   have w1:IntKind.wrap .i64 ((a.length:Int)+((([(32:UInt8)].length:Nat)):Int))=((a.length+1:Nat):Int):=by
    rw[w64 (by simp;omega) (by simp;omega)];simp
   rw[w0,w1];have c1:(decide (0≤(a.length:Int))&&decide ((a.length:Int)≤(((a++32::t).length:Nat):Int)))=true:=by simp;omega
   rw[c1,tft];have hai:A[i]? = some A[i]:=List.getElem?_eq_getElem (by omega);have hat:at? A (i:Int)=some A[i]:=by
    unfold at?;rw[show decide (0≤(i:Int))=true by simp];simp
   rw[hat,obs,show Int.toNat (i:Int)=i from Int.toNat_natCast i,hai,obs];simp only[tfd];rw[if_pos (by omega),if_pos (by simp)];simp only[Int.toNat_natCast];rw[w64 (x:=(i:Int)+1) (by omega) (by omega)];have e1:List.drop (a.length+1) (List.take (a++32::t).length (a++32::t))=t:=by
    rw[List.take_length,←List.drop_drop,List.drop_left];rfl
   have e2:List.drop 0 (List.take a.length (a++32::t))=a:=by rw[List.take_left];rfl
   rw[e1,e2];obtain ⟨s',A',h1,h2,h3⟩:=ih t (A.set i a) (i+1) f (by omega) (by omega) (by simpa using hA) (by omega) (by omega);refine ⟨s',A',by rw[show ((i:Int)+1)=((i+1:Nat):Int) by simp];exact h1,h2,?_⟩;rw[h3,h0g t h];have:(A.set i a).take (i+1)=A.take i++[a]:=by
    rw[List.take_set];rw[q1p (by simp;omega) a,List.take_take,show min i (i+1)=i by omega]
   rw[this];simp
theorem j1x (n:Nat) (s:List UInt8) (hs:s.length≤1000000):strings_Split (n+4) s [32]=some (splC 32 s):=by
 have hcl:=(c2e 32 s.length s (Nat.le_refl _)).1;rw[x0q,r0y,tfd,if_neg (by decide)];rw[show (([(32:UInt8)]:List UInt8)==[])=false from rfl,tff,tfd,if_pos (by decide),x0s,e1j];have c0:(decide (s.length<4294967281)&&decide (1≤[(32:UInt8)].length))=true:=by simp;omega
 rw[c0,tft,obs];have hcnt:((Lib.countB ⟨s.toArray⟩ ⟨#[32]⟩:Nat):Int)=((Lib.count s [32]:Nat):Int):=rfl;rw[show ([(32:UInt8)].toArray) = #[32] from rfl,hcnt];obtain ⟨c,hc⟩:∃c,c=Lib.count s [32]:=⟨_,rfl⟩;rw[←hc] at hcl ⊢;have m1:(if IntKind.wrap .i64 (((s.length:Nat):Int)+1)<IntKind.wrap .i64 ((c:Int)+1) then IntKind.wrap .i64 (((s.length:Nat):Int)+1) else IntKind.wrap .i64 ((c:Int)+1))=((c+1:Nat):Int):=by
  rw[w64 (by omega) (by omega),w64 (by omega) (by omega),if_neg (by omega)];simp
 simp only[m1];have c2:(decide (0≤((c+1:Nat):Int))&&(decide (((c+1:Nat):Int)≤((c+1:Nat):Int))&&decide (((c+1:Nat):Int)*16≤140737488355328)))=true:=by simp;omega
 rw[c2,tft];have w2:IntKind.wrap .i64 (((c+1:Nat):Int)-1)=(c:Int):=by rw[w64 (by omega) (by omega)];omega
 rw[w2,Int.toNat_natCast];obtain ⟨s',A',h1,h2,h3⟩:=p1e n c (by omega) s.length s (List.replicate (c+1) []) 0 a0c (Nat.le_refl _) hs (by simp) (by omega) (by unfold a0c;omega);have h1:b0z (n+2) a0c (s,[32],0,(c:Int),List.replicate (c+1) [],0,())=some (.inl (s',A',(c:Int),())):=h1;rw[h1,obs,b0t];have hai:A'[c]? = some A'[c]:=List.getElem?_eq_getElem (by omega);have hat:at? A' (c:Int)=some A'[c]:=by
  unfold at?;rw[show decide (0≤(c:Int))=true by simp];simp
 dsimp only;rw[hat,obs,Int.toNat_natCast,hai,obs,w64 (x:=(c:Int)+1) (by omega) (by omega)];have c3:(decide (0≤(c:Int)+1)&&decide ((c:Int)+1≤(((A'.set c s').length:Nat):Int)))=true:=by simp;omega
 rw[c3,tft,show Int.toNat ((c:Int)+1)=c+1 by omega,q1p h2,h3,obs];have hlen:(List.take 0 (List.replicate (c+1) ([]:List UInt8))++splC 32 s).length=c+1:=by
  rw[←h3];simp;omega
 rw[show List.drop 0 (List.take 0 (List.replicate (c+1) ([]:List UInt8))++splC 32 s)=splC 32 s by simp];rw[List.take_of_length_le (by simp at hlen;omega)]
theorem g0a (l:List UInt8):I64 (piV 64 l).1:=by
 unfold piV;split
 ·rename_i v h;unfold Lib.parseIntB at h;split at h
  ·cases h
  ·rename_i c r;dsimp only at h;split at h
   ·cases h
   ·cases h
   ·rename_i u hu;split at h
    ·cases h
    split at h
    ·cases h
    rename_i h1 h2;injection h with h;subst h;show I64 _;unfold I64;split<;>simp only[not_and,Nat.not_lt,Nat.not_le] at h1 h2<;>(try have h1:=h1 ‹_›)<;>(try have h2:=h2 ‹_›)<;>omega
 ·unfold I64;omega
 ·unfold Lib.intSat I64;split<;>constructor<;>simp
theorem piV_nt {x:Int} (h:0≤x) (h1:I64 x):piV 64 (nt x)=(x,false):=by
 rw[nt_nn h];have hu:x.toNat≤9223372036854775807:=by have:=h1.2;omega
 obtain ⟨c,r,hcr⟩:∃c r,toB (decI x.toNat)=c::r:=by
  cases hh:toB (decI x.toNat) with
  | nil=>exact absurd hh (p1p _)
  | cons c r=>exact ⟨c,r,rfl⟩
 have hc:48≤c.toNat:=by
  rcases Nat.lt_or_ge c.toNat 48 with h | h
  ·exact absurd (show c∈toB (decI x.toNat) by rw[hcr];exact List.mem_cons_self) (c2a _ h)
  ·exact h
 have hp:Lib.parseUintB 64 (toB (decI x.toNat)) = .ok x.toNat:=by
  unfold Lib.parseUintB;rw[if_neg (p1p _),d1t (2^64-1) (by decide) _ _ (Nat.le_refl _) (by omega)]
 have:Lib.parseIntB 64 (toB (decI x.toNat)) = .ok x:=by
  rw[hcr] at hp ⊢;unfold Lib.parseIntB;dsimp only;rw[if_neg (by omega),hp];dsimp only
  rw [if_neg (by rintro ⟨_, q⟩; have : (2 : Nat) ^ (64 - 1) = 9223372036854775808 := by decide
                 omega),if_neg (by rintro ⟨q,_⟩;omega),if_neg (by omega)]
  congr 1;omega
 unfold piV;rw[this]
theorem r1a (n:Nat) (s:List UInt8) (hs:s.length≤1000000):b0u (n+1) s 10 64=some (piV 64 s):=by
 rw[r0z,m0m];have c:(decide (s.length≤281474976710656)&&(decide ((10:Int)=10)&&decide ((64:Int)=64)))=true:=by simp;omega
 rw[c,tft]
theorem k1m (n:Nat) (s:List UInt8) (hs:s.length≤1000000):d0a (n+1) s 10 64=some (puV 64 s):=by
 rw[q0x,j0s];have c:(decide (s.length≤281474976710656)&&(decide ((10:Int)=10)&&(decide ((64:Int)=63)||decide ((64:Int)=64))))=true:=by simp;omega
 rw[c,tft];rfl
theorem last_l (n:Nat) (s:List UInt8) (hs:s.length≤1000000) (c:UInt8):∀(k f:Nat),k≤s.length→k<f →
  (b0k n f (s,((c.toNat:Nat):Int),(k:Int)-1,())=some (.inl ())∧c ∉ s.take k) ∨
  ∃a t,s.take k=a++c::t∧c ∉ t∧b0k n f (s,((c.toNat:Nat):Int),(k:Int)-1,())=some (.inr (a.length:Int)):=by
 intro k;induction k with
 | zero =>
  intro f hk hf;obtain ⟨f,rfl⟩:∃g,f=g+1:=⟨f-1,by omega⟩;rw[d0p,tfd,if_neg (by omega)];exact .inl ⟨rfl,by simp⟩
 | succ k ih =>
  intro f hk hf;obtain ⟨f,rfl⟩:∃g,f=g+1:=⟨f-1,by omega⟩;have hsk:s[k]? = some s[k]:=List.getElem?_eq_getElem (by omega);have hat:at? s (((k+1:Nat):Int)-1)=some s[k]:=by
   rw[show (((k+1:Nat):Int)-1)=(k:Int) by omega];unfold at?;rw[show decide (0≤(k:Int))=true by simp];simp
  have htk:s.take (k+1)=s.take k++[s[k]]:=by
   rw[List.take_add_one,hsk];rfl
  rw[d0p,tfd,if_pos (by omega),hat,obs,tfd,htk];by_cases hc:s[k]=c
  ·rw[if_pos (by rw[hc])];refine .inr ⟨s.take k,[],by rw[hc],by simp,?_⟩;rw[List.length_take,show (((k+1:Nat):Int)-1)=(k:Int) by omega];congr 2;omega
  ·have hcn:¬((((s[k]).toNat:Nat):Int)=((c.toNat:Nat):Int)):=fun e=>hc (UInt8.toNat_inj.1 (by omega))
   rw[if_neg hcn,w64 (by omega) (by omega),show (((k+1:Nat):Int)-1-1)=(k:Int)-1 by omega];rcases ih f (by omega) (by omega) with ⟨h1,h2⟩ | ⟨a,t,h1,h2,h3⟩
   ·refine .inl ⟨h1,fun hm => ?_⟩;rcases List.mem_append.1 hm with hm | hm
    ·exact h2 hm
    ·exact hc (List.mem_singleton.1 hm).symm
   ·refine .inr ⟨a,t++[s[k]],by rw[h1,List.append_assoc];rfl,fun hm => ?_,h3⟩;rcases List.mem_append.1 hm with hm | hm
    ·exact h2 hm
    ·exact hc (List.mem_singleton.1 hm).symm
theorem r1p (n:Nat) (s:List UInt8) (hs:s.length≤1000000) (c:UInt8) :
  (strings_LastIndexByte (n+2) s ((c.toNat:Nat):Int)=some (-1)∧c ∉ s)∨∃a t,s=a++c::t∧c ∉ t∧strings_LastIndexByte (n+2) s ((c.toNat:Nat):Int)=some (a.length:Int):=by
 rw[l0u,i0p,w64 (by omega) (by omega)];rcases last_l n s hs c s.length a0c (Nat.le_refl _) (by unfold a0c;omega) with ⟨h1,h2⟩ | ⟨a,t,h1,h2,h3⟩
 ·rw[h1];exact .inl ⟨rfl,by simpa using h2⟩
 ·rw[h3];exact .inr ⟨a,t,by simpa using h1,h2,rfl⟩
theorem q1m {c:UInt8}:∀(s:List UInt8) (w:List UInt8),w∈splC c s→w.length≤s.length
 | [],w,h=>by
  have:w=[]:=by simpa [splC] using h
  subst this;simp
 | d::s,w,h=>by
  rw[t0i] at h;have ih:=q1m (c:=c) s;split at h
  ·rcases List.mem_cons.1 h with rfl | h
   ·simp
   ·have:=ih w h;simp;omega
  ·cases hs:splC c s with
   | nil =>
    rw[hs] at h;have:w=[d]:=by simpa using h
    subst this;simp
   | cons x xs =>
    rw[hs] at h ih;rcases List.mem_cons.1 h with rfl | h
    ·have:=ih x List.mem_cons_self;simp;omega
    ·have:=ih w (List.mem_cons_of_mem _ h);simp;omega
theorem puW (B:Nat) (hB:B=64) (l:List UInt8):0≤(puV B l).1∧(puV B l).1≤18446744073709551615:=by
 subst hB;have:=y1s 64 l;exact ⟨this.1,by have:=this.2;simpa using this⟩
theorem i64z:I64 0:=by unfold I64;omega
theorem evW0:EvW ((0:Int),((0:Int),((0:Int),false))):=⟨i64z,by simp,i64z⟩
theorem tail_tot (n:Nat) (s:List UInt8) (hs:s.length≤1000000):∃e b,s0y (n+5) s=some (e,b)∧EvW e:=by
 rw[w0s,j1x n s hs,obs];have hm:∀w∈splC 32 s,w.length≤1000000:=fun w hw=>by have:=q1m s w hw;omega
 obtain ⟨L,hL⟩:∃L,L=splC 32 s:=⟨_,rfl⟩;rw[←hL] at hm ⊢;have hP:∀w:List UInt8,w.length≤1000000→b0u (n+3) w 10 64=some (piV 64 w):=fun w h=>r1a (n+2) w h
 have hU:∀w:List UInt8,w.length≤1000000→d0a (n+3) w 10 64=some (puV 64 w):=fun w h=>k1m (n+2) w h
 have hC:∀w:List UInt8,strings_CutPrefix (n+3+1) w [99]=some (cutP 99 w):=fun w=>q0m (n+1) 99 w
 match L,hm with
 | [],_=>exact ⟨_,_,rfl,evW0⟩
 | [a],_=>exact ⟨_,_,rfl,evW0⟩
 | [a,b],_=>exact ⟨_,_,rfl,evW0⟩
 | [a,b,c],hm =>
  have hb:=hm b (by simp);have hc:=hm c (by simp);rw[tfd,if_neg (by simp),tfd,if_neg (by simp),show at? [a,b,c] 0=some a from rfl,obs];cases ha:(a==([]:List UInt8)) with
  | false=>exact ⟨_,_,rfl,evW0⟩
  | true =>
   rw[Bool.not_true,tff,show at? [a,b,c] 1=some b from rfl,obs,show at? [a,b,c] 2=some c from rfl,hU b hb];simp only[obs];rw[hP c hc];simp only[obs];cases hst:(b==[(115:UInt8),116,97,108,101]) with
   | true =>
    rw[tft,tfd,if_neg (by simp)];exact ⟨_,_,rfl,g0a c,⟨by simp,by simp⟩,i64z⟩
   | false =>
    rw[tff];cases hu:(puV 64 b).2 with
    | false =>
     rw[Bool.not_false,tft,tfd,if_neg (by simp)];exact ⟨_,_,rfl,g0a c,puW 64 rfl b,i64z⟩
    | true =>
     rw[Bool.not_true,tff,tfd,if_neg (by simp)];exact ⟨_,_,rfl,i64z,puW 64 rfl b,i64z⟩
 | [a,b,c,d],hm =>
  have hb:=hm b (by simp);have hc:=hm c (by simp);have hd:=hm d (by simp);have hd2:(cutP 99 d).1.length≤1000000:=by have:=i1k 99 d;omega
  rw[tfd,if_neg (by simp),tfd,if_neg (by simp),show at? [a,b,c,d] 0=some a from rfl,obs];cases ha:(a==([]:List UInt8)) with
  | false=>exact ⟨_,_,rfl,evW0⟩
  | true =>
   rw[Bool.not_true,tff,show at? [a,b,c,d] 1=some b from rfl,obs,show at? [a,b,c,d] 2=some c from rfl,show at? [a,b,c,d] 3=some d from rfl,hU b hb];simp only[obs];rw[hP c hc,hC d];simp only[obs];rw[hP _ hd2];simp only[obs];cases hst:(b==[(115:UInt8),116,97,108,101]) with
   | true =>
    rw[tft,tfd,if_pos (by simp)];cases hp:(piV 64 c).2 with
    | true=>exact ⟨_,_,rfl,g0a c,⟨by simp,by simp⟩,i64z⟩
    | false =>
     rw[Bool.not_false,tft];cases hq:(cutP 99 d).2 with
     | false=>exact ⟨_,_,rfl,g0a c,⟨by simp,by simp⟩,i64z⟩
     | true=>exact ⟨_,_,rfl,g0a c,⟨by simp,by simp⟩,g0a _⟩
   | false =>
    rw[tff];cases hu:(puV 64 b).2 with
    | true =>
     rw[Bool.not_true,tff,tfd,if_pos (by simp)];exact ⟨_,_,rfl,i64z,puW 64 rfl b,i64z⟩
    | false =>
     rw[Bool.not_false,tft,tfd,if_pos (by simp)];cases hp:(piV 64 c).2 with
     | true=>exact ⟨_,_,rfl,g0a c,puW 64 rfl b,i64z⟩
     | false =>
      rw[Bool.not_false,tft];cases hq:(cutP 99 d).2 with
      | false=>exact ⟨_,_,rfl,g0a c,puW 64 rfl b,i64z⟩
      | true=>exact ⟨_,_,rfl,g0a c,puW 64 rfl b,g0a _⟩
 | a::b::c::d::e::r,_ =>
  rw[tfd,if_neg (by simp;omega),tfd,if_pos (by simp;omega)];exact ⟨_,_,rfl,evW0⟩
def evV (e:Ev):List UInt8:=if e.2.2.2=true then d1b else toB (decI e.2.1.toNat)
theorem evV_no {e:Ev} {c:UInt8} (hc:c.toNat<48):c ∉ evV e:=by
 unfold evV;split
 ·intro h;have:c=115∨c=116∨c=97∨c=108∨c=101:=by simpa [d1b] using h
  rcases this with rfl | rfl | rfl | rfl | rfl<;>simp at hc
 ·exact c2a _ hc
theorem l1e {x:Int} (h:0≤x) {c:UInt8} (hc:c.toNat<48):c ∉ nt x:=by
 rw[nt_nn h];exact c2a _ hc
theorem p1n (u:Nat) {c:UInt8} (hc:57<c.toNat):c ∉ toB (decI u):=by
 intro h;simp only[toB,List.mem_map] at h;obtain ⟨x,hx,he⟩:=h;have hr:=w0h u x hx;have:=congrArg UInt8.toNat he;rw[UInt8.toNat_ofNat'] at this;omega
theorem evT_spl {e:Ev} (h:EvOk e):splC 32 (evT e)=if 0<e.2.2.1 then [[],evV e,nt e.1,99::nt e.2.2.1] else [[],evV e,nt e.1]:=by
 have e0:evT e=[]++32::(evV e++32::(nt e.1++(if 0<e.2.2.1 then 32::99::nt e.2.2.1 else []))):=rfl;rw[e0,h0g _ (by simp),h0g _ (evV_no (by decide))];split
 ·rw[h0g _ (l1e h.t0 (by decide)),z0s];intro hm;rcases List.mem_cons.1 hm with hm | hm
  ·exact absurd hm (by decide)
  ·exact l1e h.c0 (by decide) hm
 ·rw[List.append_nil,z0s (l1e h.t0 (by decide))]
theorem x1m (n:Nat) {e:Ev} (h:EvOk e) (hw:EvW e):s0y (n+5) (evT e)=some (e,true):=by
 have hP:∀w:List UInt8,w.length≤1000000→b0u (n+3) w 10 64=some (piV 64 w):=fun w h=>r1a (n+2) w h
 have hU:∀w:List UInt8,w.length≤1000000→d0a (n+3) w 10 64=some (puV 64 w):=fun w h=>k1m (n+2) w h
 have hC:∀w:List UInt8,strings_CutPrefix (n+3+1) w [99]=some (cutP 99 w):=fun w=>q0m (n+1) 99 w
 have hl:=p1h hw;have hT:=r1f hw.t;have hCl:=r1f hw.c;have hpT:=piV_nt h.t0 hw.t;have hpC:=piV_nt h.c0 hw.c;have hcut:cutP 99 (99::nt e.2.2.1)=(nt e.2.2.1,true):=by
  show (if (99:UInt8)=99 then (nt e.2.2.1,true) else (99::nt e.2.2.1,false))=_;rw[if_pos rfl]
 rw[w0s,j1x n _ (by omega),obs,evT_spl h];cases hst:e.2.2.2 with
 | true =>
  obtain ⟨hv0,hc0⟩:=h.st hst;have hV:evV e=[115,116,97,108,101]:=by unfold evV;rw[if_pos hst];rfl
  rw[if_neg (by omega),hV,tfd,if_neg (by simp),tfd,if_neg (by simp)];have a0:∀x:List UInt8,at? [([]:List UInt8),[115,116,97,108,101],x] 0=some []:=fun _=>rfl
  have a1:∀x:List UInt8,at? [([]:List UInt8),[115,116,97,108,101],x] 1=some [115,116,97,108,101]:=fun _=>rfl
  have a2:∀x:List UInt8,at? [([]:List UInt8),[115,116,97,108,101],x] 2=some x:=fun _=>rfl
  rw[a0,obs,a1,a2];simp only[obs];rw[hP _ (by omega),hpT];simp only[obs];have:e=(e.1,0,0,true):=Prod.ext rfl (Prod.ext hv0 (Prod.ext hc0 hst))
  conv=>rhs;rw[this]
  rfl
 | false =>
  have hV:evV e=toB (decI e.2.1.toNat):=by unfold evV;rw[if_neg (by rw[hst];simp)]
  have hne:(toB (decI e.2.1.toNat)==[115,116,97,108,101])=false:=by
   cases hq:(toB (decI e.2.1.toNat)==[115,116,97,108,101]) with
   | false=>rfl
   | true =>
    have:=eq_of_beq hq;exact absurd (show (115:UInt8)∈toB (decI e.2.1.toNat) by rw[this];simp) (p1n _ (by decide))
  have hVl:=p1o hw.v.1 hw.v.2;have hpV:puV 64 (toB (decI e.2.1.toNat))=(e.2.1,false):=by
   rw[puV_dec 64 (by decide) (by have:=hw.v.2;omega),show ((e.2.1.toNat:Nat):Int)=e.2.1 by have:=hw.v.1;omega]
  rw[hV];by_cases hc:0<e.2.2.1
  ·rw[if_pos hc,tfd,if_neg (by simp),tfd,if_neg (by simp)];have a0:∀x y z:List UInt8,at? [([]:List UInt8),x,y,z] 0=some []:=fun _ _ _=>rfl
   have a1:∀x y z:List UInt8,at? [([]:List UInt8),x,y,z] 1=some x:=fun _ _ _=>rfl
   have a2:∀x y z:List UInt8,at? [([]:List UInt8),x,y,z] 2=some y:=fun _ _ _=>rfl
   have a3:∀x y z:List UInt8,at? [([]:List UInt8),x,y,z] 3=some z:=fun _ _ _=>rfl
   rw[a0,obs,a1,a2,a3];simp only[obs];rw[hne,tff,hU _ (by omega),hpV];simp only[obs];rw[hP _ (by omega),hpT,hC,hcut];simp only[obs];rw[hP _ (by omega),hpC];simp only[obs];have:e=(e.1,e.2.1,e.2.2.1,false):=Prod.ext rfl (Prod.ext rfl (Prod.ext rfl hst))
   conv=>rhs;rw[this]
   simp[c0r]
  ·rw[if_neg hc,tfd,if_neg (by simp),tfd,if_neg (by simp)];have hc0:e.2.2.1=0:=by have:=h.c0;omega
   have a0:∀x y:List UInt8,at? [([]:List UInt8),x,y] 0=some []:=fun _ _=>rfl
   have a1:∀x y:List UInt8,at? [([]:List UInt8),x,y] 1=some x:=fun _ _=>rfl
   have a2:∀x y:List UInt8,at? [([]:List UInt8),x,y] 2=some y:=fun _ _=>rfl
   rw[a0,obs,a1,a2];simp only[obs];rw[hne,tff,hU _ (by omega),hpV];simp only[obs];rw[hP _ (by omega),hpT];simp only[obs];have:e=(e.1,e.2.1,0,false):=Prod.ext rfl (Prod.ext rfl (Prod.ext hc0 hst))
   conv=>rhs;rw[this]
   simp[c0r]
def okR (r:RowT):Prop:=LabOk r.1∧EvOk r.2
noncomputable instance (r:RowT):Decidable (okR r):=Classical.propDecidable _
def z0R:RowT:=([],((0:Int),((0:Int),((0:Int),false))))
theorem b2k {e:Ev} (h:EvOk e):(125:UInt8) ∉ evT e:=by
 intro hm;have n1:∀x:Int,0≤x→(125:UInt8) ∉ nt x:=fun x hx=>by rw[nt_nn hx];exact p1n _ (by decide)
 have nv:(125:UInt8) ∉ evV e:=by
  unfold evV;split
  ·decide
  ·exact p1n _ (by decide)
 have hm:(125:UInt8)∈32::(evV e++32::(nt e.1++(if 0<e.2.2.1 then 32::99::nt e.2.2.1 else []))):=hm;rcases List.mem_cons.1 hm with hm | hm
 ·exact absurd hm (by decide)
 rcases List.mem_append.1 hm with hm | hm
 ·exact nv hm
 rcases List.mem_cons.1 hm with hm | hm
 ·exact absurd hm (by decide)
 rcases List.mem_append.1 hm with hm | hm
 ·exact n1 _ h.t0 hm
 split at hm
 ·rcases List.mem_cons.1 hm with hm | hm
  ·exact absurd hm (by decide)
  rcases List.mem_cons.1 hm with hm | hm
  ·exact absurd hm (by decide)
  ·exact n1 _ h.c0 hm
 ·cases hm
theorem t1g (n:Nat) (s:List UInt8) (hs:s.length≤100000):∃p:RowT×Int,l0p (n+9) s=some p∧EvW p.1.2∧((p.2=0∧okR p.1∧c0f p.1=s)∨p=(z0R,4)):=by
 have key:∃i:Nat,i≤s.length∧∃j:Int,strings_LastIndexByte (n+8) s 125=some j∧j+1=(i:Int):=by
  rcases r1p (n+6) s (by omega) 125 with ⟨h1,_⟩ | ⟨a,t,h1,_,h3⟩
  ·exact ⟨0,Nat.zero_le _,-1,h1,rfl⟩
  ·exact ⟨a.length+1,by rw[h1];simp,_,h3,by simp⟩
 obtain ⟨i,hi,j,h1,hij⟩:=key;rw[t0a,h1,obs,w64 (x:=j+1) (by omega) (by omega),hij];simp only[Int.toNat_natCast];have c1:(decide ((0:Int)≤(i:Int))&&decide ((i:Int)≤((s.length:Nat):Int)))=true:=by simp;omega
 rw[c1,tft];obtain ⟨r,hr,hr2⟩:=a1q (n+1) (List.drop 0 (List.take i s)) (by simp;omega);obtain ⟨e,b,he,hew⟩:=tail_tot (n+3) (List.drop i (List.take s.length s)) (by simp;omega);rw[hr,obs];simp only[tfd];rw[if_pos (by omega),if_pos hi,he,obs];have bad:∃p:RowT×Int,(some (z0R,(4:Int)):Option (RowT×Int))=some p∧EvW p.1.2∧((p.2=0∧okR p.1∧c0f p.1=s)∨p=(z0R,4)):=⟨_,rfl,evW0,.inr rfl⟩;cases hb1:(!decide (r.2=0)) with
 | true=>exact bad
 | false =>
  rw[tff];cases b with
  | false=>exact bad
  | true =>
   rw[Bool.not_true,tff,z0m n (r.1,e) hew];simp only[obs];by_cases ho:okR (r.1,e)
   ·rw[if_pos ho.1,if_pos ho.2];simp only[decide_true,Bool.not_true,tff];cases hq:(c0f (r.1,e)==s) with
    | false=>exact bad
    | true=>exact ⟨_,rfl,hew,.inl ⟨rfl,ho,eq_of_beq hq⟩⟩
   ·by_cases hl:LabOk (r.1,e).1
    ·rw[if_pos hl,if_neg (fun k=>ho ⟨hl,k⟩)];exact bad
    ·rw[if_neg hl];exact bad
theorem k0c (n:Nat) {r:RowT} (h:okR r) (hw:EvW r.2):l0p (n+9) (c0f r)=some (r,0):=by
 have hl:=t0b h.1;have he:=p1h hw;obtain ⟨A,hA⟩:∃A,j0e r.1=A++[125]:=⟨h0y 123 r.1,rfl⟩;have hline:c0f r=A++125::evT r.2:=by
  unfold c0f;rw[hA];simp
 have hAl:A.length+1=(j0e r.1).length:=by rw[hA];simp
 have hsz:(c0f r).length=(j0e r.1).length+(evT r.2).length:=by unfold c0f;simp
 have h1:strings_LastIndexByte (n+8) (c0f r) 125=some (A.length:Int):=by
  rcases r1p (n+6) (c0f r) (by omega) 125 with ⟨_,h1⟩ | ⟨a,t,h1,h2,h3⟩
  ·exact absurd (show (125:UInt8)∈c0f r by rw[hline];simp) h1
  ·have hq:a++125::t=A++125::evT r.2:=by rw[←h1,hline]
   have hlen:a.length=A.length:=by
    have e1:=congrArg List.reverse hq;simp only[List.reverse_append,List.reverse_cons,List.append_assoc,List.singleton_append] at e1;have e2:=b2k h.2;have g:=h0g (c:=125) a.reverse (a:=t.reverse) (fun k=>h2 (List.mem_reverse.1 k));have g2:=h0g (c:=125) A.reverse (a:=(evT r.2).reverse) (fun k=>e2 (List.mem_reverse.1 k));have e3:t.reverse++125::a.reverse=(evT r.2).reverse++125::A.reverse:=e1;rw[e3,g2] at g;have g0:=(List.cons.inj g).1;have gl:=congrArg List.length g0;have ql:=congrArg List.length hq;rw[List.length_reverse,List.length_reverse] at gl
    rw[List.length_append,List.length_append,List.length_cons,List.length_cons] at ql;clear hq e1 e3 g g2 g0 hA hline h1 h3 h2 e2;omega
   have h3':strings_LastIndexByte (n+8) (c0f r) 125=some (a.length:Int):=h3;rw[h3',hlen]
 rw[t0a,h1,obs,w64 (by omega) (by omega)];have hi:((A.length:Int)+1)=(((j0e r.1).length:Nat):Int):=by omega
 rw[hi];simp only[Int.toNat_natCast];have c1:(decide ((0:Int)≤(((j0e r.1).length:Nat):Int))&&decide ((((j0e r.1).length:Nat):Int)≤(((c0f r).length:Nat):Int)))=true:=by simp;omega
 rw[c1,tft];have e1:List.drop 0 (List.take (j0e r.1).length (c0f r))=j0e r.1:=by unfold c0f;rw[List.take_left];rfl
 have e2:List.drop (j0e r.1).length (List.take (c0f r).length (c0f r))=evT r.2:=by
  rw[List.take_length];unfold c0f;rw[List.drop_left]
 rw[e1,e2,y0d (n+1) h.1,obs];simp only[tfd];rw[if_pos (by omega),if_pos (by omega),x1m (n+3) h.2 hw,obs];simp only[decide_true,Bool.not_true,tff];rw[z0m n (r.1,r.2) hw];simp only[obs];rw[if_pos h.1,if_pos h.2];simp[c0r]
noncomputable def rowO (s:List UInt8):Option RowT:=open Classical in if h:∃r:RowT,okR r∧EvW r.2∧c0f r=s then some (Classical.choose h) else none
theorem a1b {s:List UInt8} {r:RowT} (h:rowO s=some r):okR r∧EvW r.2∧c0f r=s:=by
 unfold rowO at h;split at h
 ·rename_i q;injection h with h;subst h;exact Classical.choose_spec q
 ·cases h
theorem a1c {r:RowT} (h:okR r) (hw:EvW r.2):rowO (c0f r)=some r:=by
 have q:∃x:RowT,okR x∧EvW x.2∧c0f x=c0f r:=⟨r,h,hw,rfl⟩;have hs:rowO (c0f r)=some (Classical.choose q):=by unfold rowO;rw[dif_pos q]
 obtain ⟨k1,k2,k3⟩:=a1b hs;have e1:=k0c 0 k1 k2;rw[k3,k0c 0 h hw] at e1;injection e1 with e1;injection e1 with e1;rw[hs,←e1]
theorem b1z (n:Nat) (s:List UInt8) (hs:s.length≤100000):l0p (n+9) s=some (match rowO s with | some r=>(r,0) | none=>(z0R,4)):=by
 cases h:rowO s with
 | some r =>
  obtain ⟨k1,k2,rfl⟩:=a1b h;exact k0c n k1 k2
 | none =>
  obtain ⟨p,h1,h2,h3⟩:=t1g n s hs;rw[h1];rcases h3 with ⟨_,h4,h5⟩ | h3
  ·have:=a1c h4 h2;rw[h5,h] at this;cases this
  ·rw[h3]
noncomputable def x0w (L:List (List UInt8)):List RowT:=L.filterMap rowO
noncomputable def badL:List (List UInt8)→Nat
 | []=>0
 | s::L=>(match rowO s with | some _=>0 | none=>1)+badL L
theorem s1k:∀L M,badL (L++M)=badL L+badL M
 | [],M=>by simp[badL]
 | s::L,M=>by
  show (match rowO s with | some _=>0 | none=>1)+badL (L++M)=_;rw[s1k L M];show _=(match rowO s with | some _=>0 | none=>1)+badL L+badL M;omega
theorem read_l (n:Nat):∀(L:List (List UInt8)) (out:List RowT) (others:Int),(∀s∈L,s.length≤100000)→out.length+L.length≤10000000→0≤others→others+L.length≤10000000 →
  i0g (n+9) (L.map fun l=>(l,())) (out,others,())=some (out++x0w L,others+(badL L:Int),()):=by
 intro L;induction L with
 | nil=>intro out others _ _ _ _;rw[List.map_nil,x0n];simp[x0w,badL]
 | cons s L ih =>
  intro out others hL h1 h2 h3;simp only[List.length_cons] at h1 h3;rw[List.map_cons,u0y];dsimp only;rw[b1z n s (hL s List.mem_cons_self),obs];have hL':∀s∈L,s.length≤100000:=fun x hx=>hL x (List.mem_cons_of_mem _ hx)
  cases hr:rowO s with
  | some r =>
   dsimp only;simp only[decide_true,Bool.not_true,tff,tfd];rw[if_pos (by omega),obs,ih (out++[r]) others hL' (by simp;omega) h2 (by omega)];simp[x0w,badL,hr]
  | none =>
   dsimp only;rw[show (!decide ((4:Int)=0))=true by decide,tft,obs,w64 (by omega) (by omega),ih out (others+1) hL' (by omega) (by omega) (by omega)];simp[x0w,badL,hr];omega
theorem x1j (n:Nat) (s:List UInt8) (hs:s.length≤1000000) (hL:∀l∈g0v (s.length+1) s,l.length≤100000) (hn:(g0v (s.length+1) s).length≤1000000) :
  s0z (n+10) s=some (x0w (g0v (s.length+1) s),(badL (g0v (s.length+1) s):Int)):=by
 rw[j1q,f1l,a1u,tfd,if_pos (by omega),obs,read_l n _ [] 0 hL (by simp;omega) (by omega) (by omega),obs];simp
theorem z1x (s sep:List UInt8):Lib.cut s sep=cutV s sep:=rfl
theorem v0v:∀f,g0v f []=[]
 | 0=>rfl
 | f+1=>by unfold g0v;rw[if_pos rfl]
theorem z1v {a t:List UInt8} (ha:(10:UInt8) ∉ a) (f:Nat):g0v (f+1) (a++10::t)=(if p0f a=true then [a] else [])++g0v f t:=by
 have hc:Lib.cut (a++10::t) [10]=(a,t,true):=by
  rw[z1x,show a++10::t=a++([10]++t) by simp];exact c2d ha
 conv=>lhs;unfold g0v
 rw[if_neg (by simp),hc]
theorem v1c {a:List UInt8} (ha:(10:UInt8) ∉ a) (f:Nat):g0v (f+1) a=if p0f a=true then [a] else []:=by
 by_cases h:a=[]
 ·subst h;rw[v0v];rfl
 ·have hc:Lib.cut a [10]=(a,[],false):=by rw[z1x];exact cutV_no ha
  conv=>lhs;unfold g0v
  rw[if_neg h,hc];dsimp only;rw[v0v,List.append_nil]
theorem qt_no:∀s:List UInt8,(10:UInt8) ∉ qt s
 | []=>by simp[qt]
 | c::s=>by
  rw[g1h];intro h;rcases List.mem_append.1 h with h | h
  ·unfold qb at h;split at h
   ·simp at h
   split at h
   ·rename_i h1 h2;simp at h;rw[←h] at h1;exact h1 rfl
   split at h
   ·rename_i h1 h2 h3;simp at h;rw[←h] at h1;exact h1 rfl
   ·rename_i h1 h2 h3;simp at h;rw[←h] at h1;exact h1 rfl
  ·exact qt_no s h
theorem s1h:∀(l:List Lab) (c:UInt8),c≠10→(∀x∈l,i0q x.1)→(10:UInt8) ∉ h0y c l
 | [],c,_,_=>by simp[h0y]
 | x::l,c,hc,hx=>by
  intro h;have h:(10:UInt8)∈c::(labT x++h0y 44 l):=h;rcases List.mem_cons.1 h with h | h
  ·exact hc h.symm
  rcases List.mem_append.1 h with h | h
  ·unfold labT at h;have hn:=i0q.no (hx x List.mem_cons_self) (c:=10) (by unfold sgn;decide);have hq:=qt_no x.2;simp only[List.mem_append] at h;rcases h with ((h | h) | h) | h
   ·exact hn h
   ·simp at h
   ·exact hq h
   ·simp at h
  ·exact s1h l 44 (by decide) (fun y hy=>hx y (List.mem_cons_of_mem _ hy)) h
theorem evT_no {e:Ev} (h:EvOk e):(10:UInt8) ∉ evT e:=by
 intro hm;have hm:(10:UInt8)∈32::(evV e++32::(nt e.1++(if 0<e.2.2.1 then 32::99::nt e.2.2.1 else []))):=hm;rcases List.mem_cons.1 hm with hm | hm
 ·exact absurd hm (by decide)
 rcases List.mem_append.1 hm with hm | hm
 ·exact evV_no (by decide) hm
 rcases List.mem_cons.1 hm with hm | hm
 ·exact absurd hm (by decide)
 rcases List.mem_append.1 hm with hm | hm
 ·exact l1e h.t0 (by decide) hm
 split at hm
 ·rcases List.mem_cons.1 hm with hm | hm
  ·exact absurd hm (by decide)
  rcases List.mem_cons.1 hm with hm | hm
  ·exact absurd hm (by decide)
  ·exact l1e h.c0 (by decide) hm
 ·cases hm
theorem lineT_no {r:RowT} (h:okR r):(10:UInt8) ∉ c0f r:=by
 intro hm;unfold c0f j0e at hm;rcases List.mem_append.1 hm with hm | hm
 ·rcases List.mem_append.1 hm with hm | hm
  ·exact s1h r.1 123 (by decide) (b1f _ _ h.1.c) hm
  ·exact absurd (List.mem_singleton.1 hm) (by decide)
 ·exact evT_no h.2 hm
theorem o1y {r:RowT} (h:okR r):p0f (c0f r)=true:=by
 unfold c0f j0e;rw[s1i h.1.ne];rfl
theorem u0e {r:RowT} (h:okR r) (hw:EvW r.2):(c0f r).length≤10100:=by
 have h1:=t0b h.1;have h2:=p1h hw;unfold c0f;rw[List.length_append];omega
theorem r34_same (n:Nat) (a:RowT) (hl:a.1.length≤1000000):g1f (n+2) a a=some true:=by
 rw[o1i,same5 n a.1 a.1 (by omega),obs];simp[c0r]
theorem u1m (n:Nat) (l:List RowT) (hl:l.length≤1000000) (hw:∀r∈l,r.1.length≤1000000):∀(rest pre:List RowT) (f:Nat) (i:Int),l=pre++rest→i=pre.length →
  g0s (n+2) (f+rest.length+1) (l,l,(l.length:Int),i,())=some (.inl ()):=by
 intro rest;induction rest with
 | nil =>
  intro pre f i h hi;rw[k0v];simp only[tfd,if_neg (idxe h hi rfl)]
 | cons a rest ih =>
  intro pre f i h hi;have hlen:=congrArg List.length h;simp at hlen;have ha:=hw a (by rw[h];simp);rw[show f+(a::rest).length+1=(f+rest.length+1)+1 by simp;omega,k0v];simp only[tfd,if_pos (idx h hi rfl)];rw[c0h h hi,obs,obs,r34_same n a ha,obs,w64 (x:=i+1) (by omega) (by omega),ih (pre++[a]) f (i+1) (idxl h) (idxs hi)];rfl
theorem r34_list (n:Nat) (l:List RowT) (hl:l.length≤1000000) (hw:∀r∈l,r.1.length≤1000000):p0a (n+3) l l=some true:=by
 rw[a1e];have:=u1m n l hl hw l [] (a0c-l.length-1) 0 rfl rfl;rw[←lfu (by omega)] at this;rw[this];simp
theorem row_wf {r:RowT} (h:Wf e0l r):EvW r.2:=by
 obtain ⟨_,hT⟩:=h;obtain ⟨t1,t2,t3,_⟩:=hT;exact ⟨t1,t2,t3⟩
theorem l1h:∀(k:Nat) (s:List UInt8),s.length≤k→∀f,s.length<f→g0v f s=(splC 10 s).filter p0f:=by
 intro k;induction k with
 | zero =>
  intro s hs f hf;have:s=[]:=List.eq_nil_of_length_eq_zero (by omega);subst this;rw[v0v];rfl
 | succ k ih =>
  intro s hs f hf;obtain ⟨f,rfl⟩:∃x,f=x+1:=⟨f-1,by omega⟩;rcases y0n 10 s with h | ⟨a,t,rfl,h⟩
  ·rw[v1c h,z0s h,List.filter_cons];rfl
  ·simp at hs hf;rw[z1v h,h0g t h,ih t (by omega) f (by omega),List.filter_cons];split<;>simp
theorem y1j (L M:List (List UInt8)):x0w (L++M)=x0w L++x0w M:=List.filterMap_append
noncomputable def m0g (r:RowT):List UInt8×Int:=if LabOk r.1 then (if EvOk r.2 then (c0f r,0) else ([],2)) else ([],8)
theorem g1u {r:RowT} (h:okR r):m0g r=(c0f r,0):=by unfold m0g;rw[if_pos h.1,if_pos h.2]
theorem r1n {r:RowT} (h:¬okR r):∃w,w≠0∧m0g r=([],w):=by
 unfold m0g;by_cases hl:LabOk r.1
 ·rw[if_pos hl,if_neg (fun k=>h ⟨hl,k⟩)];exact ⟨2,by decide,rfl⟩
 ·rw[if_neg hl];exact ⟨8,by decide,rfl⟩
noncomputable def allR:List UInt8→List RowT→List UInt8×Int
 | A,[]=>(A,0)
 | A,r::l=>if (m0g r).2=0 then allR (A++((m0g r).1++[10])) l else ([],(m0g r).2)
theorem z1w {r:RowT} (hw:EvW r.2):(m0g r).1.length≤10100:=by
 by_cases h:okR r
 ·rw[g1u h];exact u0e h hw
 ·obtain ⟨w,_,h⟩:=r1n h;rw[h];simp
theorem t1h (n:Nat) (l:List RowT) (hl:l.length≤100000) (hw:∀r∈l,EvW r.2):∀(rest pre:List RowT) (f:Nat) (A:List UInt8) (i:Int),l=pre++rest→i=pre.length→A.length≤20000*pre.length →
  ∃z,n0f (n+8) (f+rest.length+1) (A,l,(l.length:Int),i,())=some z∧c0w (fun y1=>a0a (d0h (n+8) y1.1) fun r2=>some (r2.1,(0:Int))) (fun z3=>some z3) z=some (allR A rest):=by
 intro rest;induction rest with
 | nil =>
  intro pre f A i h hi hA;rw[r0g];simp only[tfd,if_neg (idxe h hi rfl)];refine ⟨_,rfl,?_⟩;rw[b0t,f0z,obs];rfl
 | cons a rest ih =>
  intro pre f A i h hi hA;have hlen:=congrArg List.length h;simp at hlen;have ha:=hw a (by rw[h];simp);have hll:=z1w ha;rw[show f+(a::rest).length+1=(f+rest.length+1)+1 by simp;omega,r0g];simp only[tfd,if_pos (idx h hi rfl)];rw[c0h h hi,obs,z0m n a ha,obs,w64 (x:=i+1) (by omega) (by omega)];rw[show (if LabOk a.1 then (if EvOk a.2 then (c0f a,(0:Int)) else ([],2)) else ([],8))=m0g a from rfl];have hun:allR A (a::rest)=if (m0g a).2=0 then allR (A++((m0g a).1++[10])) rest else ([],(m0g a).2):=rfl
  rw[hun];by_cases h2:(m0g a).2=0
  ·rw[decide_eq_true h2,Bool.not_true,tff,if_pos h2,wst (n+7) A _ (by omega),obs];dsimp only;rw[wb (c:=10) (u:=10) (n+7) _ rfl (by simp;omega),obs];dsimp only;obtain ⟨z,z1,z2⟩:=ih (pre++[a]) f (A++(m0g a).1++[10]) (i+1) (idxl h) (idxs hi) (by simp;omega);exact ⟨z,z1,by rw[z2];simp⟩
  ·rw[decide_eq_false h2,Bool.not_false,tft,if_neg h2];exact ⟨_,rfl,rfl⟩
theorem q1j (n:Nat) (l:List RowT) (hl:l.length≤100000) (hw:∀r∈l,EvW r.2):y0j (n+9) l=some (allR [] l):=by
 rw[n1e];obtain ⟨z,z1,z2⟩:=t1h n l hl hw l [] (a0c-l.length-1) [] 0 rfl rfl (by simp);rw[←lfu (by omega)] at z1;rw[z1,obs];exact z2
def linesT:List RowT→List UInt8
 | []=>[]
 | r::l=>c0f r++10::linesT l
theorem i1y:∀(l:List RowT) (A:List UInt8),(∀r∈l,okR r)→allR A l=(A++linesT l,0)
 | [],A,_=>by simp[allR,linesT]
 | r::l,A,h=>by
  have hr:=g1u (h r List.mem_cons_self);have hun:allR A (r::l)=if (m0g r).2=0 then allR (A++((m0g r).1++[10])) l else ([],(m0g r).2):=rfl
  rw[hun,hr,if_pos rfl,i1y l _ fun x hx=>h x (List.mem_cons_of_mem _ hx)];simp[linesT]
theorem i1z:∀(l:List RowT) (A:List UInt8),(¬ ∀r∈l,okR r)→∃w,w≠0∧allR A l=([],w)
 | [],A,h=>absurd (fun r hr=>by cases hr) h
 | r::l,A,h=>by
  have hun:allR A (r::l)=if (m0g r).2=0 then allR (A++((m0g r).1++[10])) l else ([],(m0g r).2):=rfl
  by_cases ho:okR r
  ·have hr:=g1u ho;rw[hun,hr,if_pos rfl];refine i1z l _ fun k=>h fun x hx => ?_
   rcases List.mem_cons.1 hx with rfl | hx
   ·exact ho
   ·exact k x hx
  ·obtain ⟨w,hw,hr⟩:=r1n ho;rw[hun,hr,if_neg hw];exact ⟨w,hw,rfl⟩
theorem m0f:∀l:List RowT,(∀r∈l,okR r∧EvW r.2)→(linesT l).length≤10101*l.length
 | [],_=>by simp[linesT]
 | r::l,h=>by
  have h1:=u0e (h r List.mem_cons_self).1 (h r List.mem_cons_self).2;have:=m0f l fun x hx=>h x (List.mem_cons_of_mem _ hx)
  simp[linesT];omega
theorem v0u (t:List UInt8):∀l:List RowT,(∀r∈l,okR r)→splC 10 (linesT l++t)=l.map c0f++splC 10 t
 | [],_=>rfl
 | r::l,h=>by
  have hr:=lineT_no (h r List.mem_cons_self);rw[show linesT (r::l)++t=c0f r++10::(linesT l++t) by simp[linesT],h0g _ hr,v0u t l fun x hx=>h x (List.mem_cons_of_mem _ hx)];rfl
theorem p0l:∀l:List RowT,(∀r∈l,okR r)→(l.map c0f).filter p0f=l.map c0f
 | [],_=>rfl
 | r::l,h=>by
  rw[List.map_cons,List.filter_cons,if_pos (o1y (h r List.mem_cons_self)),p0l l fun x hx=>h x (List.mem_cons_of_mem _ hx)]
theorem s0c:∀l:List RowT,(∀r∈l,okR r∧EvW r.2)→x0w (l.map c0f)=l
 | [],_=>rfl
 | r::l,h=>by
  have h1:=a1c (h r List.mem_cons_self).1 (h r List.mem_cons_self).2;have:=s0c l fun x hx=>h x (List.mem_cons_of_mem _ hx)
  unfold x0w at this ⊢;rw[List.map_cons,List.filterMap_cons,h1,this]
theorem w0l:∀l:List RowT,(∀r∈l,okR r∧EvW r.2)→badL (l.map c0f)=0
 | [],_=>rfl
 | r::l,h=>by
  have h1:=a1c (h r List.mem_cons_self).1 (h r List.mem_cons_self).2;rw[List.map_cons];show (match rowO (c0f r) with | some _=>0 | none=>1)+badL (l.map c0f)=0;rw[h1,w0l l fun x hx=>h x (List.mem_cons_of_mem _ hx)]
def b1x:List UInt8:=[110,111,110,101]
theorem r1g:rowO b1x=none:=by
 cases h:rowO b1x with
 | none=>rfl
 | some r =>
  obtain ⟨h1,_,h3⟩:=a1b h;exfalso;have hl:=h1.1.n0;obtain ⟨lab,e⟩:=r;cases lab with
  | nil=>simp at hl
  | cons x lab =>
   have:c0f (x::lab,e)=123::(labT x++h0y 44 lab++125::evT e):=by
    unfold c0f j0e;simp[h0y]
   rw[this] at h3;unfold b1x at h3;injection h3 with h3;exact absurd h3 (by decide)
def mixT (l m:List RowT):List UInt8:=[35,32,97,108,108,10]++linesT l++[10,110,111,110,101,10,35,32,109,111,114,101,10]++linesT m
theorem z1q (l m:List RowT) (hl:∀r∈l,okR r) (hm:∀r∈m,okR r):g0v ((mixT l m).length+1) (mixT l m)=l.map c0f++b1x::m.map c0f:=by
 rw[l1h _ _ (Nat.le_refl _) _ (Nat.lt_succ_self _)];have e:mixT l m=[35,32,97,108,108]++10::(linesT l++([]++10::(b1x++10::([35,32,109,111,114,101]++10::(linesT m++[]))))):=by
  unfold mixT b1x;simp
 rw[e,h0g _ (by decide),v0u _ l hl,h0g _ (by decide),h0g _ (by decide),h0g _ (by decide),v0u _ m hm];rw[List.filter_cons,if_neg (by decide),List.filter_append,p0l l hl,List.filter_cons,if_neg (by decide),List.filter_cons,if_pos (by decide),List.filter_cons,if_neg (by decide),List.filter_append,p0l m hm];rw[show (splC 10 []).filter p0f=[] from rfl,List.append_nil]
theorem mix_read (n:Nat) (l m:List RowT) (hl:∀r∈l,okR r∧EvW r.2) (hm:∀r∈m,okR r∧EvW r.2) (h40:l.length+m.length≤40):s0z (n+10) (mixT l m)=some (l++m,1):=by
 have h1:=m0f l hl;have h2:=m0f m hm;have hlen:(mixT l m).length≤500000:=by unfold mixT;simp;omega
 have e:=z1q l m (fun r hr=>(hl r hr).1) fun r hr=>(hm r hr).1
 have k1:∀x∈l.map c0f++b1x::m.map c0f,x.length≤100000:=fun x hx=>by
  rcases List.mem_append.1 hx with hx | hx
  ·obtain ⟨r,hr,rfl⟩:=List.mem_map.1 hx;have:=u0e (hl r hr).1 (hl r hr).2;omega
  ·rcases List.mem_cons.1 hx with rfl | hx
   ·decide
   ·obtain ⟨r,hr,rfl⟩:=List.mem_map.1 hx;have:=u0e (hm r hr).1 (hm r hr).2;omega
 rw[x1j n (mixT l m) (by omega) (by rw[e];exact k1) (by rw[e];simp;omega),e,y1j,s0c l hl,s1k,w0l l hl];have e2:x0w (b1x::m.map c0f)=m:=by
  have:=s0c m hm;unfold x0w at this ⊢;rw[List.filterMap_cons,r1g,this]
 have e3:badL (b1x::m.map c0f)=1:=by
  show (match rowO b1x with | some _=>0 | none=>1)+badL (m.map c0f)=1;rw[r1g,w0l m hm]
 rw[e2,e3];rfl
end Go.Proofs.YtjionkknnajjgaaGreatDoor
namespace Go.Proofs.YtjionkknnajjgaaGreatDoor
open Go.Flat
theorem ob {α β:Type} {o:Option α} {x:α} {f:α→Option β} {r:Option β} (h:o=some x) (k:f x=r):a0a o f=r:=by rw[h];exact k
theorem tt {α:Type} {b:Bool} {x y r:α} (h:b=true) (k:x=r):tif b x y=r:=by rw[h];exact k
theorem tf {α:Type} {b:Bool} {x y r:α} (h:b=false) (k:y=r):tif b x y=r:=by rw[h];exact k
end Go.Proofs.YtjionkknnajjgaaGreatDoor
namespace Go.Proofs.YtjionkknnajjgaaGreatDoor
open Go.Flat
set_option linter.unusedVariables false
theorem v0t (n:Nat)  : o0p (n+1)  =
 a0a (a2h n ) fun r0 =>
 a0a (x1p n r0) fun r1 =>
 tif ((!(decide (r1.2=(0:Int))))) (
 some false) (
 a0a (x1s n r1.1) fun r2 =>
 a0a (l0q n (((((97:UInt8)::[]),[])::[]),((3:Int),((7:Int),((0:Int),false))))) fun r3 =>
 tif ((decide (r2.2=(0:Int)))) (
 tif ((decide (r2.1.2.2.1=(3:Int)))) (
 tif ((r3.1==((123:UInt8)::((97:UInt8)::((61:UInt8)::((34:UInt8)::((34:UInt8)::((125:UInt8)::((32:UInt8)::((55:UInt8)::((32:UInt8)::((51:UInt8)::[])))))))))))) (
 some (decide (r3.2=(0:Int)))) (
 some false)) (
 some false)) (
 some false)):=by kernel_rfl
theorem y0b (n:Nat):a2h (n+39)=some (20,((10,(20,60)),((4,(5,6)),(3,9)))):=by kernel_rfl
theorem y0a (n:Nat):x1p (n+39) (20,((10,(20,60)),((4,(5,6)),(3,9))))=some (((20,((10,(20,60)),((4,(5,6)),(3,9)))),(0,((-1),[([],(0,((0,(0,[])),(([],([],[])),(0,(0,((0,(0,(0,false))),((0,(0,(0,false))),((0,0),(0,(0,0))))))))))),([],(0,((0,(0,[])),(([],([],[])),(0,(0,((0,(0,(0,false))),((0,(0,(0,false))),((0,0),(0,(0,0))))))))))),([],(0,((0,(0,[])),(([],([],[])),(0,(0,((0,(0,(0,false))),((0,(0,(0,false))),((0,0),(0,(0,0)))))))))))]))),0):=by kernel_rfl
theorem x0z (n:Nat):x1s (n+39) ((20,((10,(20,60)),((4,(5,6)),(3,9)))),(0,((-1),[([],(0,((0,(0,[])),(([],([],[])),(0,(0,((0,(0,(0,false))),((0,(0,(0,false))),((0,0),(0,(0,0))))))))))),([],(0,((0,(0,[])),(([],([],[])),(0,(0,((0,(0,(0,false))),((0,(0,(0,false))),((0,0),(0,(0,0))))))))))),([],(0,((0,(0,[])),(([],([],[])),(0,(0,((0,(0,(0,false))),((0,(0,(0,false))),((0,0),(0,(0,0)))))))))))])))=some ((0,(0,(3,(0,(0,((0,(0,0)),0)))))),0):=by kernel_rfl
theorem x0y (n:Nat):l0q (n+39) ([([97],[])],(3,(7,(0,false))))=some ([123,97,61,34,34,125,32,55,32,51],0):=by kernel_rfl
theorem u0v (n:Nat):o0p (n+40)=some true:=by
 rw[v0t];refine ob (y0b n) ?_;refine ob (y0a n) ?_;refine tf (by kernel_rfl) ?_;refine ob (x0z n) ?_;refine ob (x0y n) ?_;refine tt (by kernel_rfl) ?_;refine tt (by kernel_rfl) ?_;refine tt (by kernel_rfl) ?_
 kernel_rfl
end Go.Proofs.YtjionkknnajjgaaGreatDoor
namespace Go.Proofs.YtjionkknnajjgaaGreatDoor
open Go.Flat Go.Plim
set_option linter.unusedVariables false
set_option linter.unusedSimpArgs false
theorem scr6_l (n:Nat) (at_:Int) (s:Sta) (l:List RowT) (hL:l.length≤20) (hw:∀r∈l,r.1.length≤9223372036854775807):∀(rest pre:List RowT) (f:Nat) (i:Int),l=pre++rest→i=pre.length →
  ∃z,f0e (n+1) (f+rest.length+1) (l,at_,s,l,(l.length:Int),i,())=some z∧(z = .inr true∨(z = .inl (l,at_,s,())∧∀r∈rest,r.1.length≤40)):=by
 intro rest;induction rest with
 | nil =>
  intro pre f i h hi;rw[i0w];simp only[tfd,if_neg (idxe h hi rfl)];exact ⟨_,rfl,.inr ⟨rfl,fun r hr=>by cases hr⟩⟩
 | cons a rest ih =>
  intro pre f i h hi;have hlen:=congrArg List.length h;simp at hlen;rw[show f+(a::rest).length+1=(f+rest.length+1)+1 by simp;omega,i0w];simp only[tfd,if_pos (idx h hi rfl)];rw[c0h h hi,obs];rcases v1e n a.1 (hw a (by rw[h];simp)) with hs | ⟨hs,hs2⟩
  ·rw[hs,obs,if_pos rfl];exact ⟨_,rfl,.inl rfl⟩
  ·rw[hs,obs,if_neg (by decide),w64 (x:=i+1) (by omega) (by omega)];obtain ⟨z,z1,z2⟩:=ih (pre++[a]) f (i+1) (idxl h) (idxs hi);refine ⟨z,z1,?_⟩;rcases z2 with z2 | ⟨z2,z3⟩
   ·exact .inl z2
   ·refine .inr ⟨z2,fun r hr => ?_⟩;rcases List.mem_cons.1 hr with rfl | hr
    ·exact hs2
    ·exact z3 r hr
theorem scr20_l (n:Nat) (l:List RowT) (hL:l.length≤20) (hw:∀r∈l,EvW r.2):∀(rest pre:List RowT) (f:Nat) (i:Int) (s:Sta),l=pre++rest→i=pre.length→StaW s →
  ∃t,StaW t∧d0k (n+24) (f+rest.length+1) (s,l,s,l,(l.length:Int),i,())=some (.inl (t,t,())):=by
 intro rest;induction rest with
 | nil =>
  intro pre f i s h hi hs;rw[i0f];simp only[tfd,if_neg (idxe h hi rfl)];exact ⟨s,hs,rfl⟩
 | cons a rest ih =>
  intro pre f i s h hi hs;have hlen:=congrArg List.length h;simp at hlen;have ha:=hw a (by rw[h];simp);rw[show f+(a::rest).length+1=(f+rest.length+1)+1 by simp;omega,i0f];simp only[tfd,if_pos (idx h hi rfl)];rw[c0h h hi,obs,j1c n hs a.1 ha,obs,obs,obs,j1c n hs a.1 ha,obs];simp only[decide_true,Bool.not_true,tff];rw[w64 (x:=i+1) (by omega) (by omega)];by_cases h0:(o0g s a.1 a.2).2=0
  ·rw[if_pos h0];exact ih (pre++[a]) f (i+1) _ (idxl h) (idxs hi) (writeV_w hs a.1 a.2)
  ·rw[if_neg h0];exact ih (pre++[a]) f (i+1) s (idxl h) (idxs hi) hs
theorem z0j (n:Nat) (s:Sta) (rows:List RowT) (at_:Int) (hs:Wf a0v s) (hr:Wf (.slice e0l) rows):r0f (n+41) s rows at_=some true:=by
 have hll:rows.length≤9223372036854775807:=hr.1;have hlw:∀r∈rows,Wf e0l r:=hr.2;have hwe:∀r∈rows,EvW r.2:=fun r hr=>row_wf (hlw r hr)
 have hsw:=sta_wf hs;rw[u0w,u0v n,obs,Bool.not_true,tff];rcases a2e (n+37) hsw with h | ⟨h,_⟩
 ·rw[h,obs,tfd,if_pos rfl]
 rw[h,obs,tfd,if_neg (by decide),tfd];by_cases h1:(20:Int)<((rows.length:Nat):Int)
 ·rw[if_pos h1]
 rw[if_neg h1,tfd];by_cases h2:at_<0
 ·rw[if_pos h2]
 rw[if_neg h2,tfd];by_cases h3:((rows.length:Nat):Int)<at_
 ·rw[if_pos h3]
 rw[if_neg h3];obtain ⟨z,z1,z2⟩:=scr6_l (n+39) at_ s rows (by omega) (fun r hr=>(hlw r hr).1.1) rows [] (a0c-rows.length-1) 0 rfl rfl;rw[←lfu (by omega)] at z1;rw[z1,obs];rcases z2 with rfl | ⟨rfl,h40⟩
 ·rfl
 rw[b0t];dsimp only;have c1:(decide ((0:Int)≤at_)&&decide (at_≤((rows.length:Nat):Int)))=true:=by
  rw[Bool.and_eq_true,decide_eq_true_eq,decide_eq_true_eq];omega
 obtain ⟨l,hl⟩:∃l,l=List.drop 0 (List.take (Int.toNat at_) rows):=⟨_,rfl⟩;obtain ⟨m,hm⟩:∃m,m=List.drop (Int.toNat at_) (List.take rows.length rows):=⟨_,rfl⟩;have hlm:l++m=rows:=by rw[hl,hm,List.take_length];exact List.take_append_drop _ _
 have hlw1:∀r∈l,EvW r.2:=fun r hr=>hwe r (by rw[←hlm];exact List.mem_append_left _ hr)
 have hmw1:∀r∈m,EvW r.2:=fun r hr=>hwe r (by rw[←hlm];exact List.mem_append_right _ hr)
 have hlen:=congrArg List.length hlm;rw[List.length_append] at hlen;rw[c1,tft,←hl,←hm,q1j (n+31) l (by omega) hlw1,obs,tfd,if_pos (by omega),tfd,if_pos (by omega),q1j (n+31) m (by omega) hmw1,obs];by_cases okl:∀r∈l,okR r
 rotate_left
 ·obtain ⟨w,hw,e⟩:=i1z l [] okl;rw[e];rw[decide_eq_false (show ¬(([]:List UInt8),w).2=0 from hw),Bool.not_false,tft,tff,show ((([]:List UInt8),w).1==[])=true from rfl,tft];by_cases okm:∀r∈m,okR r
  ·rw[i1y m [] okm];rfl
  ·obtain ⟨w2,hw2,e2⟩:=i1z m [] okm;rw[e2,decide_eq_false (show ¬(([]:List UInt8),w2).2=0 from hw2)];rfl
 rw[i1y l [] okl];by_cases okm:∀r∈m,okR r
 rotate_left
 ·obtain ⟨w2,hw2,e2⟩:=i1z m [] okm;rw[e2,decide_eq_false (show ¬(([]:List UInt8),w2).2=0 from hw2)];rfl
 rw[i1y m [] okm];dsimp only;have hlg:∀r∈l,okR r∧EvW r.2:=fun r hr=>⟨okl r hr,hlw1 r hr⟩
 have hmg:∀r∈m,okR r∧EvW r.2:=fun r hr=>⟨okm r hr,hmw1 r hr⟩
 have k1:=m0f l hlg;have k2:=m0f m hmg;have hrd:=mix_read (n+30) l m hlg hmg (by omega);rw[hlm] at hrd;rw[List.nil_append,List.nil_append];have et:((((35:UInt8)::((32:UInt8)::((97:UInt8)::((108:UInt8)::((108:UInt8)::((10:UInt8)::[]))))))++linesT l)++((10:UInt8)::((110:UInt8)::((111:UInt8)::((110:UInt8)::((101:UInt8)::((10:UInt8)::((35:UInt8)::((32:UInt8)::((109:UInt8)::((111:UInt8)::((114:UInt8)::((101:UInt8)::((10:UInt8)::[]))))))))))))))++linesT m=mixT l m:=rfl
 rw[decide_eq_true (rfl:(0:Int)=0),Bool.not_true,tff,tff,tfd,if_pos (by omega),tfd,if_pos (by simp;omega),tfd,if_pos (by simp;omega),et,hrd,obs,decide_eq_true (rfl:(1:Int)=1),Bool.not_true,tff,
  r34_list (n+37) rows (by omega) (fun r hr=>by have:=h40 r hr;omega),obs,Bool.not_true,tff]
 obtain ⟨t,t1,t2⟩:=scr20_l (n+16) rows (by omega) hwe rows [] (a0c-rows.length-1) 0 s rfl rfl hsw;rw[←lfu (by omega)] at t2;rw[t2,obs,b0t];dsimp only;rw[stt_same (n+35) t1 t,obs,decide_eq_true rfl]
end Go.Proofs.YtjionkknnajjgaaGreatDoor
