/-
  Plain proofs about the functions of this seat, part 3 of 3.
-/
import Derived.Test.YtjeabebacegikaaGreatDoorQ2
import Derived.Test.YtjeabebacegikaaGreatDoorTr
namespace Go.Proofs.YtjeabebacegikaaGreatDoor
open Go.Flat Go.Plim
set_option linter.unusedVariables false
set_option linter.unusedSimpArgs false
theorem sm_all:((List.range 100).all fun x=>decide (at? bs_92989263 ((2*x:Nat):Int)=some (UInt8.ofNat (48+x / 10)))&&decide (at? bs_92989263 ((2*x+1:Nat):Int)=some (UInt8.ofNat (48+x % 10))))=true:=by decide +kernel
theorem wu32 {x:Nat} (h:x<4294967296):IntKind.wrap .u32 (x:Int)=x:=by
  rw[IntKind.wrap_u32];omega
theorem sm_hi {x:Nat} (h:x<100):at? bs_92989263 (IntKind.wrap .u32 ((x:Int)*(2:Int)))=some (UInt8.ofNat (48+x / 10)):=by
  have:=List.all_eq_true.1 sm_all x (List.mem_range.2 h)
  simp only[Bool.and_eq_true,decide_eq_true_eq] at this
  rw[show ((x:Int)*(2:Int))=((2*x:Nat):Int) by omega,wu32 (by omega)]
  exact this.1
theorem sm_lo {x:Nat} (h:x<100):at? bs_92989263 (IntKind.wrap .u32 ((IntKind.wrap .u32 ((x:Int)*(2:Int)))+(1:Int)))=some (UInt8.ofNat (48+x % 10)):=by
  have:=List.all_eq_true.1 sm_all x (List.mem_range.2 h)
  simp only[Bool.and_eq_true,decide_eq_true_eq] at this
  rw[show ((x:Int)*(2:Int))=((2*x:Nat):Int) by omega,wu32 (by omega),show ((2*x:Nat):Int)+1=((2*x+1:Nat):Int) by omega,wu32 (by omega)]
  exact this.2
theorem u8d {d:Nat} (h:d<10):((UInt8.toNat (UInt8.ofNat (48+d)):Nat):Int)=((48+d:Nat):Int):=by
  rw[UInt8.toNat_ofNat',Nat.mod_eq_of_lt (by simp;omega)]
theorem obind_const {α β:Type} {o:Option α} (h:∃y,o=some y) (z:Option β):(obind o fun _=>z)=z:=by
  obtain ⟨y,rfl⟩:=h;rfl
theorem at_tk {X:List Int} {len i:Nat} (h:i<len) (hX:len≤X.length):∃y,at? (List.take len (List.drop 0 X)) (i:Int)=some y:=by
  refine ⟨X[i]'(by omega),?_⟩
  unfold at?
  simp only[Int.natCast_nonneg,decide_true,cond_true,Int.toNat_natCast,List.drop_zero,List.getElem?_take,if_pos h]
  exact List.getElem?_eq_getElem (by omega)
theorem gi_tk {X:List Int} {i:Nat} (h:i<X.length):∃y,X[0+i]? = some y:=⟨X[i],by rw[Nat.zero_add];exact List.getElem?_eq_getElem h⟩
theorem tm100 (a:Nat):Int.tmod (a:Int) (100:Int)=((a % 100:Nat):Int):=by rw[tmod_nn (by omega)];omega
theorem tm10000 (a:Nat):Int.tmod (a:Int) (10000:Int)=((a % 10000:Nat):Int):=by rw[tmod_nn (by omega)];omega
theorem tm8 (a:Nat):Int.tmod (a:Int) (100000000:Int)=((a % 100000000:Nat):Int):=by rw[tmod_nn (by omega)];omega
theorem td100 (a:Nat):Int.tdiv (a:Int) (100:Int)=((a / 100:Nat):Int):=by rw[tdiv_nn (by omega)];omega
theorem td10000 (a:Nat):Int.tdiv (a:Int) (10000:Int)=((a / 10000:Nat):Int):=by rw[tdiv_nn (by omega)];omega
theorem td8 (a:Nat):Int.tdiv (a:Int) (100000000:Int)=((a / 100000000:Nat):Int):=by rw[tdiv_nn (by omega)];omega
theorem sub64 {k c:Nat} {z:Int} (hz:z=(c:Int)) (h:c≤k) (hk:k<1000):IntKind.wrap .i64 ((k:Int)-z)=((k-c:Nat):Int):=by
  subst hz
  rw[w64 (by omega) (by omega)];omega
theorem dig_at (U:Nat) {len k i:Nat} (hk:k≤len) (hi:i<k):U / 10^(len-1-(k-1-i))=U / 10^(len-k) / 10^i:=by
  rw[Nat.div_div_eq_div_mul,←Nat.pow_add]
  congr 2;omega
theorem dig_eq {a b:Nat} (h:a=b):(some ((48+a:Nat):Int))=some ((48+b:Nat):Int):=by rw[h]
theorem fb_l1 (n:Nat) {U len:Nat} (hlen:len≤24) (hU:U<18446744073709551616):∀(m f k:Nat) (L:List Int),k / 8=m→m<f→k≤len→len≤L.length →
    (∀j,k≤j→j<len→L[j]? = some ((48+U / 10^(len-1-j) % 10:Nat):Int)) →
    ∃L',strconv_formatBase10_l1 n f ((L,(0,len)),(((U / 10^(len-k):Nat):Int),((k:Int),())))=some (.inl ((L',(0,len)),(((U / 10^(len-k % 8):Nat):Int),(((k % 8:Nat):Int),())))) ∧
      L'.length=L.length∧∀j,k % 8≤j→j<len→L'[j]? = some ((48+U / 10^(len-1-j) % 10:Nat):Int):=by
  intro m
  induction m with
  | zero =>
    intro f k L hm hf hk hL hfill
    obtain ⟨g,rfl⟩:∃g,f=g+1:=⟨f-1,by omega⟩
    refine ⟨L,?_,rfl,?_⟩
    · rw[strconv_formatBase10_l1_eq]
      simp only[tfd]
      rw[if_neg (by omega),show k % 8=k by omega]
    · rw[show k % 8=k by omega];exact hfill
  | succ m ih =>
    intro f k L hm hf hk hL hfill
    obtain ⟨g,rfl⟩:∃g,f=g+1:=⟨f-1,by omega⟩
    have hk8:8≤k:=by omega
    have hv:U / 10^(len-k)<18446744073709551616:=Nat.lt_of_le_of_lt (Nat.div_le_self _ _) hU
    have hnext:U / 10^(len-(k-8))=U / 10^(len-k) / 100000000:=by
      rw[Nat.div_div_eq_div_mul,show len-(k-8)=len-k+8 by omega,Nat.pow_add]
    have hdig:∀i,i<k→U / 10^(len-1-(k-1-i))=U / 10^(len-k) / 10^i:=fun i hi=>dig_at U hk hi
    have IH:=fun L=>ih g (k-8) L (by omega) (by omega) (by omega)
    rw[hnext] at IH
    generalize hvv:U / 10^(len-k)=v at *
    rw[strconv_formatBase10_l1_eq]
    simp only[tfd]
    rw[if_pos (by omega)]
    have e1:IntKind.wrap .u32 (Int.tmod (v:Int) (100000000:Int))=((v % 100000000:Nat):Int):=by rw[tm8,wu32 (by omega)]
    rw[e1]
    generalize hx:v % 100000000=x
    have hx8:x<100000000:=by omega
    have e2:IntKind.wrap .u32 (Int.tdiv (x:Int) (10000:Int))=((x / 10000:Nat):Int):=by rw[td10000,wu32 (by omega)]
    rw[tm10000,e2]
    generalize hx10:x % 10000=x10
    generalize hx32:x / 10000=x32
    have e3:IntKind.wrap .u32 (Int.tdiv (x10:Int) (100:Int))=((x10 / 100:Nat):Int):=by rw[td100,wu32 (by omega)]
    have e4:IntKind.wrap .u32 (Int.tdiv (x32:Int) (100:Int))=((x32 / 100:Nat):Int):=by rw[td100,wu32 (by omega)]
    rw[e3,e4,tm100,tm100,td8,wu64 (x:=((v / 100000000:Nat):Int)) (by omega) (by omega)]
    have w1:=sub64 (k:=k) (c:=1) (z:=1) rfl (by omega) (by omega)
    have w2:=sub64 (k:=k) (c:=2) (z:=2) rfl (by omega) (by omega)
    have w3:=sub64 (k:=k) (c:=3) (z:=3) rfl (by omega) (by omega)
    have w4:=sub64 (k:=k) (c:=4) (z:=4) rfl (by omega) (by omega)
    have w5:=sub64 (k:=k) (c:=5) (z:=5) rfl (by omega) (by omega)
    have w6:=sub64 (k:=k) (c:=6) (z:=6) rfl (by omega) (by omega)
    have w7:=sub64 (k:=k) (c:=7) (z:=7) rfl (by omega) (by omega)
    have w8:=sub64 (k:=k) (c:=8) (z:=8) rfl (by omega) (by omega)
    simp only[w1,w2,w3,w4,w5,w6,w7,w8,Int.toNat_natCast]
    rw[obind_of (sm_lo (x:=x10 % 100) (by omega)),obind_of (sm_hi (x:=x10 % 100) (by omega))]
    rw[obind_const (at_tk (by omega) (by first | omega | (simp only[List.length_set];omega))),obind_const (gi_tk (by first | omega | (simp only[List.length_set];omega)))]
    rw[obind_const (at_tk (by omega) (by first | omega | (simp only[List.length_set];omega))),obind_const (gi_tk (by first | omega | (simp only[List.length_set];omega)))]
    rw[obind_of (sm_lo (x:=x10 / 100) (by omega)),obind_of (sm_hi (x:=x10 / 100) (by omega))]
    rw[obind_const (at_tk (by omega) (by first | omega | (simp only[List.length_set];omega))),obind_const (gi_tk (by first | omega | (simp only[List.length_set];omega)))]
    rw[obind_const (at_tk (by omega) (by first | omega | (simp only[List.length_set];omega))),obind_const (gi_tk (by first | omega | (simp only[List.length_set];omega)))]
    rw[obind_of (sm_lo (x:=x32 % 100) (by omega)),obind_of (sm_hi (x:=x32 % 100) (by omega))]
    rw[obind_const (at_tk (by omega) (by first | omega | (simp only[List.length_set];omega))),obind_const (gi_tk (by first | omega | (simp only[List.length_set];omega)))]
    rw[obind_const (at_tk (by omega) (by first | omega | (simp only[List.length_set];omega))),obind_const (gi_tk (by first | omega | (simp only[List.length_set];omega)))]
    rw[obind_of (sm_lo (x:=x32 / 100) (by omega)),obind_of (sm_hi (x:=x32 / 100) (by omega))]
    rw[obind_const (at_tk (by omega) (by first | omega | (simp only[List.length_set];omega))),obind_const (gi_tk (by first | omega | (simp only[List.length_set];omega)))]
    rw[obind_const (at_tk (by omega) (by first | omega | (simp only[List.length_set];omega))),obind_const (gi_tk (by first | omega | (simp only[List.length_set];omega)))]
    simp only[Nat.zero_add]
    rw[u8d (d:=x10 % 100 % 10) (by omega),u8d (d:=x10 % 100 / 10) (by omega),u8d (d:=x10 / 100 % 10) (by omega),u8d (d:=x10 / 100 / 10) (by omega),u8d (d:=x32 % 100 % 10) (by omega),u8d (d:=x32 % 100 / 10) (by omega),u8d (d:=x32 / 100 % 10) (by omega),u8d (d:=x32 / 100 / 10) (by omega)]
    obtain ⟨L',h1,h2,h3⟩:=IH ((((((((L.set (k-1) ((48+x10 % 100 % 10:Nat):Int)).set (k-2) ((48+x10 % 100 / 10:Nat):Int)).set (k-3) ((48+x10 / 100 % 10:Nat):Int)).set (k-4) ((48+x10 / 100 / 10:Nat):Int)).set (k-5) ((48+x32 % 100 % 10:Nat):Int)).set (k-6) ((48+x32 % 100 / 10:Nat):Int)).set (k-7) ((48+x32 / 100 % 10:Nat):Int)).set (k-8) ((48+x32 / 100 / 10:Nat):Int)) (by simp only[List.length_set];exact hL) (fun j hj hj2=>by
      by_cases hjk:k≤j
      · repeat rw[List.getElem?_set_ne (by omega)]
        exact hfill j hjk hj2
      · have hc:j=k-1∨j=k-2∨j=k-3∨j=k-4∨j=k-5∨j=k-6∨j=k-7∨j=k-8:=by omega
        rcases hc with hc | hc | hc | hc | hc | hc | hc | hc
        · rw[hc,show U / 10^(len-1-(k-1))=v / 10^0 by have:=hdig 0 (by omega);rwa [show k-1-0=k-1 by omega] at this,List.getElem?_set_ne (by omega),List.getElem?_set_ne (by omega),List.getElem?_set_ne (by omega),List.getElem?_set_ne (by omega),List.getElem?_set_ne (by omega),List.getElem?_set_ne (by omega),List.getElem?_set_ne (by omega),List.getElem?_set_self (by first | omega | (simp only[List.length_set];omega))]
          congr 2;simp only[Nat.reducePow];omega
        · rw[hc,show U / 10^(len-1-(k-2))=v / 10^1 by have:=hdig 1 (by omega);rwa [show k-1-1=k-2 by omega] at this,List.getElem?_set_ne (by omega),List.getElem?_set_ne (by omega),List.getElem?_set_ne (by omega),List.getElem?_set_ne (by omega),List.getElem?_set_ne (by omega),List.getElem?_set_ne (by omega),List.getElem?_set_self (by first | omega | (simp only[List.length_set];omega))]
          congr 2;simp only[Nat.reducePow];omega
        · rw[hc,show U / 10^(len-1-(k-3))=v / 10^2 by have:=hdig 2 (by omega);rwa [show k-1-2=k-3 by omega] at this,List.getElem?_set_ne (by omega),List.getElem?_set_ne (by omega),List.getElem?_set_ne (by omega),List.getElem?_set_ne (by omega),List.getElem?_set_ne (by omega),List.getElem?_set_self (by first | omega | (simp only[List.length_set];omega))]
          congr 2;simp only[Nat.reducePow];omega
        · rw[hc,show U / 10^(len-1-(k-4))=v / 10^3 by have:=hdig 3 (by omega);rwa [show k-1-3=k-4 by omega] at this,List.getElem?_set_ne (by omega),List.getElem?_set_ne (by omega),List.getElem?_set_ne (by omega),List.getElem?_set_ne (by omega),List.getElem?_set_self (by first | omega | (simp only[List.length_set];omega))]
          congr 2;simp only[Nat.reducePow];omega
        · rw[hc,show U / 10^(len-1-(k-5))=v / 10^4 by have:=hdig 4 (by omega);rwa [show k-1-4=k-5 by omega] at this,List.getElem?_set_ne (by omega),List.getElem?_set_ne (by omega),List.getElem?_set_ne (by omega),List.getElem?_set_self (by first | omega | (simp only[List.length_set];omega))]
          congr 2;simp only[Nat.reducePow];omega
        · rw[hc,show U / 10^(len-1-(k-6))=v / 10^5 by have:=hdig 5 (by omega);rwa [show k-1-5=k-6 by omega] at this,List.getElem?_set_ne (by omega),List.getElem?_set_ne (by omega),List.getElem?_set_self (by first | omega | (simp only[List.length_set];omega))]
          congr 2;simp only[Nat.reducePow];omega
        · rw[hc,show U / 10^(len-1-(k-7))=v / 10^6 by have:=hdig 6 (by omega);rwa [show k-1-6=k-7 by omega] at this,List.getElem?_set_ne (by omega),List.getElem?_set_self (by first | omega | (simp only[List.length_set];omega))]
          congr 2;simp only[Nat.reducePow];omega
        · rw[hc,show U / 10^(len-1-(k-8))=v / 10^7 by have:=hdig 7 (by omega);rwa [show k-1-7=k-8 by omega] at this,List.getElem?_set_self (by first | omega | (simp only[List.length_set];omega))]
          congr 2;simp only[Nat.reducePow];omega)
    refine ⟨L',?_,by rw[h2];simp only[List.length_set],?_⟩
    · rw[show k % 8=(k-8) % 8 by omega];exact h1
    · rw[show k % 8=(k-8) % 8 by omega];exact h3
theorem zero_ofN:((0,0):Wd)=ofN 0:=rfl
def bys (x:Nat):List Int:=(List.range 16).map fun j=>((byt x j:Nat):Int)
theorem bys_len (x:Nat):(bys x).length=16:=by simp[bys]
theorem bys_at (x:Nat) {j:Nat} (h:j<16):(bys x)[j]? = some ((byt x j:Nat):Int):=by
  unfold bys;rw[List.getElem?_map,List.getElem?_range h];rfl
theorem bys_eq (x:Nat):bys x=[((x % 256:Nat):Int),((x / 256 % 256:Nat):Int),((x / 65536 % 256:Nat):Int),((x / 16777216 % 256:Nat):Int),((x / 4294967296 % 256:Nat):Int),((x / 1099511627776 % 256:Nat):Int),((x / 281474976710656 % 256:Nat):Int),((x / 72057594037927936 % 256:Nat):Int),
    ((x / 18446744073709551616 % 256:Nat):Int),((x / 4722366482869645213696 % 256:Nat):Int),((x / 1208925819614629174706176 % 256:Nat):Int),((x / 309485009821345068724781056 % 256:Nat):Int),((x / 79228162514264337593543950336 % 256:Nat):Int),((x / 20282409603651670423947251286016 % 256:Nat):Int),((x / 5192296858534827628530496329220096 % 256:Nat):Int),((x / 1329227995784915872903807060280344576 % 256:Nat):Int)]:=by
  unfold bys byt
  simp[List.range,List.range.loop]
abbrev l16 (r:B16):List Int:=[r.1,r.2.1,r.2.2.1,r.2.2.2.1,r.2.2.2.2.1,r.2.2.2.2.2.1,r.2.2.2.2.2.2.1,r.2.2.2.2.2.2.2.1,r.2.2.2.2.2.2.2.2.1,r.2.2.2.2.2.2.2.2.2.1,r.2.2.2.2.2.2.2.2.2.2.1,r.2.2.2.2.2.2.2.2.2.2.2.1,r.2.2.2.2.2.2.2.2.2.2.2.2.1,r.2.2.2.2.2.2.2.2.2.2.2.2.2.1,r.2.2.2.2.2.2.2.2.2.2.2.2.2.2.1,r.2.2.2.2.2.2.2.2.2.2.2.2.2.2.2]
theorem bys_list (x:Nat):bys x=[((byt x 0:Nat):Int),((byt x 1:Nat):Int),((byt x 2:Nat):Int),((byt x 3:Nat):Int),((byt x 4:Nat):Int),((byt x 5:Nat):Int),((byt x 6:Nat):Int),((byt x 7:Nat):Int),((byt x 8:Nat):Int),((byt x 9:Nat):Int),((byt x 10:Nat):Int),((byt x 11:Nat):Int),((byt x 12:Nat):Int),((byt x 13:Nat):Int),((byt x 14:Nat):Int),((byt x 15:Nat):Int)]:=by
  unfold bys
  simp[List.range,List.range.loop]
theorem digits8 {v x0 x1 x2 x3 x4 x5 x6 x7:Int} (b:Byt x0∧Byt x1∧Byt x2∧Byt x3∧Byt x4∧Byt x5∧Byt x6∧Byt x7) (h:v=x0+x1*256+x2*65536+x3*16777216+x4*4294967296+x5*1099511627776+x6*281474976710656+x7*72057594037927936) :
    x0=v % 256∧x1=v / 256 % 256∧x2=v / 65536 % 256∧x3=v / 16777216 % 256∧x4=v / 4294967296 % 256∧x5=v / 1099511627776 % 256∧x6=v / 281474976710656 % 256∧x7=v / 72057594037927936 % 256:=by
  simp only[Byt] at b
  obtain ⟨⟨_,_⟩,⟨_,_⟩,⟨_,_⟩,⟨_,_⟩,⟨_,_⟩,⟨_,_⟩,⟨_,_⟩,⟨_,_⟩⟩:=b
  refine ⟨?_,?_,?_,?_,?_,?_,?_,?_⟩<;>omega
theorem r01_bytesN (n:Nat) {x:Nat} (h:x<340282366920938463463374607431768211456):∃r:B16,r01_Bytes (n+1) (ofN x)=some r∧l16 r=bys x:=by
  obtain ⟨x0,x1,x2,x3,x4,x5,x6,x7,x8,x9,x10,x11,x12,x13,x14,x15,hr,⟨b0,b1,b2,b3,b4,b5,b6,b7,b8,b9,b10,b11,b12,b13,b14,b15⟩,hlo,hhi⟩:=r01_bytes n (ofN_ok h)
  refine ⟨_,hr,?_⟩
  obtain ⟨c0,c1,c2,c3,c4,c5,c6,c7⟩:=digits8 ⟨b0,b1,b2,b3,b4,b5,b6,b7⟩ hlo
  obtain ⟨d0,d1,d2,d3,d4,d5,d6,d7⟩:=digits8 ⟨b8,b9,b10,b11,b12,b13,b14,b15⟩ hhi
  have elo:(ofN x).2=((x % 18446744073709551616:Nat):Int):=rfl
  have ehi:(ofN x).1=((x / 18446744073709551616:Nat):Int):=rfl
  rw[elo] at c0 c1 c2 c3 c4 c5 c6 c7
  rw[ehi] at d0 d1 d2 d3 d4 d5 d6 d7
  rw[bys_eq]
  simp only[l16]
  clear hr hlo hhi b0 b1 b2 b3 b4 b5 b6 b7 b8 b9 b10 b11 b12 b13 b14 b15
  subst c0 c1 c2 c3 c4 c5 c6 c7 d0 d1 d2 d3 d4 d5 d6 d7
  simp only[List.cons.injEq,and_true]
  refine ⟨?_,?_,?_,?_,?_,?_,?_,?_,?_,?_,?_,?_,?_,?_,?_,?_⟩
  all_goals omega
theorem r01_ofN (n:Nat) {x:Nat} (h:x<340282366920938463463374607431768211456):r01_Of (n+1) (((byt x 0:Nat):Int),((byt x 1:Nat):Int),((byt x 2:Nat):Int),((byt x 3:Nat):Int),((byt x 4:Nat):Int),((byt x 5:Nat):Int),((byt x 6:Nat):Int),((byt x 7:Nat):Int),((byt x 8:Nat):Int),((byt x 9:Nat):Int),((byt x 10:Nat):Int),((byt x 11:Nat):Int),((byt x 12:Nat):Int),((byt x 13:Nat):Int),((byt x 14:Nat):Int),((byt x 15:Nat):Int))=some (ofN x):=by
  obtain ⟨r,hr,hl⟩:=r01_bytesN n h
  obtain ⟨x0,x1,x2,x3,x4,x5,x6,x7,x8,x9,x10,x11,x12,x13,x14,x15,hr',hb,hlo,hhi⟩:=r01_bytes n (ofN_ok h)
  have hr':=Option.some.inj (hr.symm.trans hr')
  subst hr'
  rw[bys_list] at hl
  simp only[l16,List.cons.injEq,and_true] at hl
  obtain ⟨rfl,rfl,rfl,rfl,rfl,rfl,rfl,rfl,rfl,rfl,rfl,rfl,rfl,rfl,rfl,rfl⟩:=hl
  obtain ⟨b0,b1,b2,b3,b4,b5,b6,b7,b8,b9,b10,b11,b12,b13,b14,b15⟩:=hb
  rw[r01_of n b0 b1 b2 b3 b4 b5 b6 b7 b8 b9 b10 b11 b12 b13 b14 b15,←hlo,←hhi]
theorem r01_ofL (n:Nat) {x:Nat} (h:x<340282366920938463463374607431768211456) {R:Type} (k:Wd→Option R) {l:List Int} (hl:l=bys x) :
    (obind (l[0]?) fun r0=>obind (l[1]?) fun r1=>obind (l[2]?) fun r2=>obind (l[3]?) fun r3=>obind (l[4]?) fun r4=>obind (l[5]?) fun r5=>obind (l[6]?) fun r6=>obind (l[7]?) fun r7=>obind (l[8]?) fun r8=>obind (l[9]?) fun r9=>obind (l[10]?) fun r10=>obind (l[11]?) fun r11=>obind (l[12]?) fun r12=>obind (l[13]?) fun r13=>obind (l[14]?) fun r14=>obind (l[15]?) fun r15=>obind (r01_Of (n+1) (r0,(r1,(r2,(r3,(r4,(r5,(r6,(r7,(r8,(r9,(r10,(r11,(r12,(r13,(r14,r15)))))))))))))))) k)=k (ofN x):=by
  subst hl
  have e:∀j:Nat,j<16→(bys x)[j]? = some ((byt x j:Nat):Int):=fun j hj=>bys_at x hj
  rw[e 0 (by decide),e 1 (by decide),e 2 (by decide),e 3 (by decide),e 4 (by decide),e 5 (by decide),e 6 (by decide),e 7 (by decide),e 8 (by decide),e 9 (by decide),e 10 (by decide),e 11 (by decide),e 12 (by decide),e 13 (by decide),e 14 (by decide),e 15 (by decide)]
  simp only[obs,r01_ofN n h]
theorem r01_addN (n:Nat) {x y:Nat} (hx:x<340282366920938463463374607431768211456) (hy:y<340282366920938463463374607431768211456):r01_Add (n+2) (ofN x) (ofN y)=some (if x+y<340282366920938463463374607431768211456 then (ofN (x+y),0) else ((0,0),1)):=by
  rw[r01_add n (ofN_ok hx) (ofN_ok hy)]
  unfold addW
  rw[wv_ofN,wv_ofN]
  have e:(x:Int)+y=((x+y:Nat):Int):=by omega
  rw[e,mkW_nat]
  by_cases h:x+y<340282366920938463463374607431768211456
  · rw[if_pos h,if_pos (by omega)]
  · rw[if_neg h,if_neg (by omega)]
theorem r01_lessN (n:Nat) {x y:Nat} (hx:x<340282366920938463463374607431768211456) (hy:y<340282366920938463463374607431768211456):r01_Less (n+2) (ofN x) (ofN y)=some (decide (x<y)):=by
  rw[r01_less n (ofN_ok hx) (ofN_ok hy),wv_ofN,wv_ofN]
  congr 1
  exact decide_eq_decide.2 (by omega)
def subL (A B i:Nat):List Int:=(List.range 16).map fun j=>(((if j<i then byt (A-B) j else byt A j):Nat):Int)
def owe (A B i:Nat):Nat:=if A % 256^i<B % 256^i then 1 else 0
theorem subL_len (A B i:Nat):(subL A B i).length=16:=by simp[subL]
theorem subL_at (A B i:Nat) {j:Nat} (h:j<16):(subL A B i)[j]? = some (((if j<i then byt (A-B) j else byt A j):Nat):Int):=by
  unfold subL;rw[List.getElem?_map,List.getElem?_range h];rfl
theorem subL_set (A B:Nat) {i:Nat} (h:i<16):(subL A B i).set i ((byt (A-B) i:Nat):Int)=subL A B (i+1):=by
  apply List.ext_getElem?
  intro j
  rw[List.getElem?_set,subL_len]
  by_cases hj:j<16
  · rw[subL_at _ _ _ hj,subL_at _ _ _ hj]
    by_cases e:i=j
    · subst e;rw[if_pos rfl,if_pos h,if_pos (by omega)]
    · rw[if_neg e]
      by_cases hlt:j<i
      · rw[if_pos hlt,if_pos (by omega)]
      · rw[if_neg hlt,if_neg (by omega)]
  · rw[if_neg (by omega),List.getElem?_eq_none (by rw[subL_len];omega),List.getElem?_eq_none (by rw[subL_len];omega)]
theorem owe_step {A B:Nat} (hle:B≤A) (i:Nat) :
    (byt A i<byt B i+owe A B i→owe A B (i+1)=1∧byt (A-B) i+byt B i+owe A B i=byt A i+256) ∧
    (byt B i+owe A B i≤byt A i→owe A B (i+1)=0∧byt (A-B) i+byt B i+owe A B i=byt A i):=by
  have hp:0<256^i:=Nat.pow_pos (by decide)
  have ea:=Nat.div_add_mod A (256^i)
  have eb:=Nat.div_add_mod B (256^i)
  have la:=Nat.mod_lt A hp
  have lb:=Nat.mod_lt B hp
  have ea2:A % 256^(i+1)=256^i*(A / 256^i % 256)+A % 256^i:=by rw[Nat.pow_succ,Nat.mod_mul];omega
  have eb2:B % 256^(i+1)=256^i*(B / 256^i % 256)+B % 256^i:=by rw[Nat.pow_succ,Nat.mod_mul];omega
  unfold owe byt
  rw[ea2,eb2]
  generalize hP:256^i=P at *
  generalize hA':A / P=A' at *
  generalize hB':B / P=B' at *
  generalize ha:A % P=a at *
  generalize hb:B % P=b at *
  have key:(A-B) / P+B'+(if a<b then 1 else 0)=A':=by
    by_cases hlt:a<b
    · rw[if_pos hlt]
      have hAB:B'+1≤A':=by
        rcases Nat.lt_or_ge B' A' with q | q
        · exact q
        · have:=Nat.mul_le_mul_left P q;omega
      obtain ⟨c,hc⟩:∃c,A'=B'+1+c:=⟨A'-(B'+1),by omega⟩
      have e1:P*A'=P*B'+P+P*c:=by rw[hc,Nat.mul_add,Nat.mul_add,Nat.mul_one]
      have e2:A-B=P*c+(P+a-b):=by omega
      rw[e2,Nat.mul_add_div hp,Nat.div_eq_of_lt (by omega)]
      omega
    · rw[if_neg hlt]
      have hAB:B'≤A':=by
        rcases Nat.lt_or_ge A' B' with q | q
        · have:=Nat.mul_le_mul_left P q
          rw[Nat.mul_succ] at this
          omega
        · exact q
      obtain ⟨c,hc⟩:∃c,A'=B'+c:=⟨A'-B',by omega⟩
      have e1:P*A'=P*B'+P*c:=by rw[hc,Nat.mul_add]
      have e2:A-B=P*c+(a-b):=by omega
      rw[e2,Nat.mul_add_div hp,Nat.div_eq_of_lt (by omega)]
      omega
  generalize (A-B) / P=D at *
  have cmp:(P*(A' % 256)+a<P*(B' % 256)+b)↔(A' % 256<B' % 256∨A' % 256=B' % 256∧a<b):=by
    rcases Nat.lt_trichotomy (A' % 256) (B' % 256) with q | q | q
    · have:=Nat.mul_le_mul_left P q
      rw[Nat.mul_succ] at this
      constructor
      · intro _;exact .inl q
      · intro _;omega
    · rw[q];constructor
      · intro h;exact .inr ⟨rfl,by omega⟩
      · rintro (h | ⟨_,h⟩)<;>omega
    · have:=Nat.mul_le_mul_left P q
      rw[Nat.mul_succ] at this
      constructor
      · intro h;omega
      · rintro (h | ⟨h,_⟩)<;>omega
  by_cases hab:a<b
  · simp only[if_pos hab] at key ⊢
    constructor
    · intro h
      rw[if_pos (cmp.2 (by omega))]
      exact ⟨rfl,by omega⟩
    · intro h
      rw[if_neg (fun q=>by have:=cmp.1 q;omega)]
      exact ⟨rfl,by omega⟩
  · simp only[if_neg hab] at key ⊢
    constructor
    · intro h
      rw[if_pos (cmp.2 (by omega))]
      exact ⟨rfl,by omega⟩
    · intro h
      rw[if_neg (fun q=>by have:=cmp.1 q;omega)]
      exact ⟨rfl,by omega⟩
theorem r01_sub_l6 (n:Nat) {A B:Nat} (hle:B≤A) (s4:Wd):∀(k f i:Nat),i+k=16→k<f →
    r01_Sub_l6 n f (s4,subL A B i,bys B,((owe A B i:Nat):Int),(i:Int),())=some (.inl (s4,bys (A-B),())):=by
  intro k
  induction k with
  | zero =>
    intro f i hi hf
    obtain ⟨f,rfl⟩:∃g,f=g+1:=⟨f-1,by omega⟩
    have:i=16:=by omega
    subst this
    rw[r01_Sub_l6_eq,decide_eq_false (by decide),tff]
    congr 3
  | succ k ih =>
    intro f i hi hf
    obtain ⟨f,rfl⟩:∃g,f=g+1:=⟨f-1,by omega⟩
    have hlt:i<16:=by omega
    have g1:=byt_lt A i
    have g2:=byt_lt B i
    have g3:=byt_lt (A-B) i
    have g4:owe A B i≤1:=by unfold owe;split<;>omega
    obtain ⟨s1,s2⟩:=owe_step hle i
    have next:=ih f (i+1) (by omega) (by omega)
    rw[r01_Sub_l6_eq,subL_len,bys_len,Int.toNat_natCast,subL_at _ _ _ hlt,bys_at _ hlt,if_neg (Nat.lt_irrefl i)]
    simp only[decide_eq_true (show (i:Int)<16 by omega),decide_eq_true (show (0:Int)≤(i:Int) by omega),decide_eq_true (show (i:Int)<((16:Nat):Int) by omega),Bool.and_self,tft,obs]
    rw[w64 (x:=((byt A i:Nat):Int)-((byt B i:Nat):Int)) (by omega) (by omega),w64 (x:=((byt A i:Nat):Int)-((byt B i:Nat):Int)-((owe A B i:Nat):Int)) (by omega) (by omega),w64 (x:=(i:Int)+1) (by omega) (by omega),tfd]
    by_cases h:byt A i<byt B i+owe A B i
    · obtain ⟨t1,t2⟩:=s1 h
      rw[t1] at next
      rw[if_pos (by omega),w64 (by omega) (by omega),show ((byt A i:Nat):Int)-((byt B i:Nat):Int)-((owe A B i:Nat):Int)+256=((byt (A-B) i:Nat):Int) by omega,subL_set _ _ hlt]
      exact next
    · obtain ⟨t1,t2⟩:=s2 (by omega)
      rw[t1] at next
      rw[if_neg (by omega),show ((byt A i:Nat):Int)-((byt B i:Nat):Int)-((owe A B i:Nat):Int)=((byt (A-B) i:Nat):Int) by omega,subL_set _ _ hlt]
      exact next
theorem r01_subN (n:Nat) {A B:Nat} (hA:A<340282366920938463463374607431768211456) (hle:B≤A):r01_Sub (n+3) (ofN A) (ofN B)=some (ofN (A-B),0):=by
  obtain ⟨ra,ha,hla⟩:=r01_bytesN (n+1) hA
  obtain ⟨rb,hb,hlb⟩:=r01_bytesN (n+1) (Nat.lt_of_le_of_lt hle hA)
  rw[r01_Sub_eq,r01_lessN n hA (Nat.lt_of_le_of_lt hle hA),obs,decide_eq_false (by omega),tff,ha,obs,hb,obs]
  rw[show (decide (16=((((((((((((((((1+1)+1)+1)+1)+1)+1)+1)+1)+1)+1)+1)+1)+1)+1)+1) / 1)))=true from rfl,tft,tft]
  have e0:subL A B 0=bys A:=by unfold subL bys;apply List.map_congr_left;intro j _;rw[if_neg (Nat.not_lt_zero j)]
  have:=r01_sub_l6 (n+2) hle (0,0) 16 loopFuel 0 rfl (by decide)
  rw[e0,show owe A B 0=0 by unfold owe;simp[Nat.mod_one],←hla,←hlb] at this
  change obind (r01_Sub_l6 (n+2) loopFuel ((0,0),l16 ra,l16 rb,((0:Nat):Int),((0:Nat):Int),())) _=_
  rw[this,obs,selim_inl]
  exact r01_ofL (n+1) (Nat.lt_of_le_of_lt (Nat.sub_le _ _) hA) (fun r=>some (r,0)) rfl
theorem lo_ofN {b:Nat} (h:b<18446744073709551616):(((0:Int),(b:Int)):Wd)=ofN b:=by
  unfold ofN
  rw[Nat.div_eq_of_lt h,Nat.mod_eq_of_lt h];rfl
theorem shr64 (v k:Nat) (hk:k≤64):shrI .i64 (v:Int) (k:Int)=((v / 2^k:Nat):Int):=shrN v k hk
theorem and1 {v:Nat} (h:v<256):andI .i64 (v:Int) (1:Int)=((v % 2:Nat):Int):=by
  unfold andI
  have e2:(BitVec.ofInt IntKind.i64.bits (v:Int) &&& BitVec.ofInt IntKind.i64.bits (1:Int)).toNat=v % 2:=by
    show (BitVec.ofInt 64 (v:Int) &&& BitVec.ofInt 64 ((1:Nat):Int)).toNat=_
    rw[BitVec.toNat_and,BitVec.ofInt_natCast,BitVec.ofInt_natCast,BitVec.toNat_ofNat,BitVec.toNat_ofNat,Nat.mod_eq_of_lt (by omega),Nat.mod_eq_of_lt (by omega)]
    exact Nat.and_one_is_mod v
  rw[e2]
  exact w64 (by omega) (by omega)
theorem orbit {v j:Nat} (h:v<256) (hj:j<8):orI .i64 (v:Int) (shlI .i64 (1:Int) (j:Int))=((v ||| 2^j:Nat):Int):=by
  have hp:2^j<256:=Nat.lt_of_lt_of_le (Nat.pow_lt_pow_right (a:=2) (n:=8) (by decide) hj) (by decide)
  have e1:shlI .i64 (1:Int) (j:Int)=((2^j:Nat):Int):=by
    show IntKind.wrap .i64 ((1:Int)*2^(min (j:Int).toNat 64))=_
    rw[show min (j:Int).toNat 64=j by omega,Int.one_mul]
    have:(2:Int)^j=((2^j:Nat):Int):=by simp
    rw[this]
    generalize 2^j=p at hp
    exact w64 (by omega) (by omega)
  rw[e1]
  unfold orI
  have e2:(BitVec.ofInt IntKind.i64.bits (v:Int) ||| BitVec.ofInt IntKind.i64.bits ((2^j:Nat):Int)).toNat=v ||| 2^j:=by
    show (BitVec.ofInt 64 (v:Int) ||| BitVec.ofInt 64 ((2^j:Nat):Int)).toNat=_
    rw[BitVec.toNat_or,BitVec.ofInt_natCast,BitVec.ofInt_natCast,BitVec.toNat_ofNat,BitVec.toNat_ofNat,Nat.mod_eq_of_lt (by omega),Nat.mod_eq_of_lt (by omega)]
  rw[e2]
  have:v ||| 2^j<2^8:=Nat.or_lt_two_pow (by omega) (by omega)
  exact w64 (by omega) (by omega)
theorem bys_set {v i:Nat} (hi:i<128) (h:2^(i+1) ∣ v):(bys v).set (i / 8) ((byt v (i / 8) ||| 2^(i % 8):Nat):Int)=bys (v+2^i):=by
  apply List.ext_getElem?
  intro j
  rw[List.getElem?_set,bys_len]
  by_cases hj:j<16
  · rw[bys_at _ hj,bys_at _ hj,byt_or h]
    by_cases e:i / 8=j
    · rw[if_pos e,if_pos e,if_pos (by omega),e]
    · rw[if_neg e,if_neg e]
  · rw[if_neg (by omega),List.getElem?_eq_none (by rw[bys_len];omega),List.getElem?_eq_none (by rw[bys_len];omega)]
theorem bit_at (A:Nat) {k:Nat}:IntKind.wrap .u64 (andI .i64 (shrI .i64 ((byt A (k / 8):Nat):Int) ((k % 8:Nat):Int)) (1:Int))=((A / 2^k % 2:Nat):Int):=by
  have hb:=byt_lt A (k / 8)
  rw[shr64 _ _ (by omega),and1 (Nat.lt_of_le_of_lt (Nat.div_le_self _ _) hb),bit_byt,wu64 (by omega) (by omega)]
theorem r01_div_l8 (n:Nat) {A D:Nat} (hA:A<340282366920938463463374607431768211456) (hD:D<18446744073709551616) (hD0:0<D) (s4:Wd):∀(k f q r:Nat),k≤128→A / 2^k=D*q+r→r<D→k<f →
    r01_Div_l8 (n+3) f (s4,(bys (q*2^k),(ofN r,(bys A,(ofN D,((k:Int)-1,()))))))=some (.inl (s4,(bys (A / D),(ofN (A % D),())))):=by
  intro k
  induction k with
  | zero =>
    intro f q r hk h hr hf
    obtain ⟨f,rfl⟩:∃g,f=g+1:=⟨f-1,by omega⟩
    rw[Nat.pow_zero,Nat.div_one] at h
    obtain ⟨e1,e2⟩:=(Nat.div_mod_unique (a:=A) (c:=r) (d:=q) hD0).2 ⟨by omega,hr⟩
    rw[r01_Div_l8_eq,decide_eq_false (by omega),tff,e1,e2,Nat.pow_zero,Nat.mul_one]
  | succ k ih =>
    intro f q r hk h hr hf
    obtain ⟨f,rfl⟩:∃g,f=g+1:=⟨f-1,by omega⟩
    obtain ⟨d1,d2⟩:=div_step (L:=0) hD0 h hr
    have e1:IntKind.wrap .i64 (Int.tdiv (k:Int) 8)=((k / 8:Nat):Int):=by rw[tdiv_nn (by omega),w64 (by omega) (by omega)];omega
    have e2:Int.tmod (k:Int) 8=((k % 8:Nat):Int):=by rw[tmod_nn (by omega)];omega
    have eb:((k+1:Nat):Int)-1=(k:Int):=by omega
    have hk8:k / 8<16:=by omega
    have hbit:A / 2^k % 2<2:=Nat.mod_lt _ (by decide)
    have hdvd:2^(k+1) ∣ q*2^(k+1):=Nat.dvd_mul_left _ _
    have eq1:(2*q+1)*2^k=q*2^(k+1)+2^k:=by rw[Nat.pow_succ,Nat.add_mul,Nat.one_mul,Nat.mul_comm 2 q,Nat.mul_assoc,Nat.mul_comm 2 (2^k)]
    have eq0:(2*q)*2^k=q*2^(k+1):=by rw[Nat.pow_succ,Nat.mul_comm 2 q,Nat.mul_assoc,Nat.mul_comm 2 (2^k)]
    have hset:=bys_set (v:=q*2^(k+1)) (i:=k) (by omega) hdvd
    have hob:=orbit (v:=byt (q*2^(k+1)) (k / 8)) (j:=k % 8) (byt_lt _ _) (by omega)
    have c1:decide ((0:Int)≤((k / 8:Nat):Int))=true:=decide_eq_true (by omega)
    have c2:decide (((k / 8:Nat):Int)<(16:Int))=true:=decide_eq_true (by omega)
    have c3:decide (((k / 8:Nat):Int)<((16:Nat):Int))=true:=decide_eq_true (by omega)
    have c4:decide (((k % 8:Nat):Int)<(0:Int))=false:=decide_eq_false (by omega)
    rw[r01_Div_l8_eq,eb,decide_eq_true (by omega),tft,r01_addN (n+1) (by omega) (by omega),obs]
    simp only[e1,e2,bys_len,c1,c2,c3,c4,Bool.and_self,tft,tff,Int.toNat_natCast,bys_at _ hk8,obs,bit_at,hob,hset]
    rw[w64 (x:=(k:Int)-1) (by omega) (by omega),lo_ofN (b:=A / 2^k % 2) (by omega)]
    generalize hb:A / 2^k % 2=b at *
    rw[if_pos (by omega)]
    simp only
    rw[r01_addN (n+1) (by omega) (by omega),obs,if_pos (by omega)]
    simp only
    rw[r01_lessN (n+1) (by omega) (by omega),obs,tfn,tfd]
    by_cases hlt:r+r+b<D
    · rw[if_pos hlt]
      have:=ih f (2*q) (r+r+b) (by omega) (by rw[d2 (by omega)];omega) hlt (by omega)
      rw[eq0] at this
      exact this
    · obtain ⟨t1,t2⟩:=d1 (by omega)
      rw[if_neg hlt,r01_subN n (by omega) (by omega),obs]
      have:=ih f (2*q+1) (r+r+b-D) (by omega) (by rw[t1];omega) (by omega) (by omega)
      rw[eq1] at this
      exact this
theorem r01_div (n:Nat) {A D:Nat} (hA:A<340282366920938463463374607431768211456) (hD:D<18446744073709551616) (hD0:0<D):r01_Div (n+4) (ofN A) (D:Int)=some (ofN (A / D),((ofN (A % D)).2,0)):=by
  rw[r01_Div_eq,tfd,if_neg (by omega)]
  obtain ⟨ra,ha,hla⟩:=r01_bytesN (n+2) hA
  rw[ha,obs]
  rw[show (decide (16=((((((((((((((((1+1)+1)+1)+1)+1)+1)+1)+1)+1)+1)+1)+1)+1)+1)+1) / 1)))=true from rfl,tft]
  have:=r01_div_l8 n hA hD hD0 (0,0) 128 loopFuel 0 0 (Nat.le_refl _) (by rw[Nat.mul_zero];exact Nat.div_eq_of_lt hA) (by omega) (by unfold loopFuel;omega)
  rw[Nat.zero_mul,show bys 0=List.replicate 16 (0:Int) from rfl,←hla,show (((128:Nat):Int)-1)=127 from rfl,←zero_ofN,←lo_ofN hD] at this
  change obind (r01_Div_l8 (n+3) loopFuel ((0,0),(List.replicate 16 (0:Int),((0,0),(l16 ra,(((0:Int),(D:Int)),(127,()))))))) _=_
  rw[this,obs,selim_inl]
  exact r01_ofL (n+2) (Nat.lt_of_le_of_lt (Nat.div_le_self _ _) hA) (fun r=>some (r,((ofN (A % D)).2,(0:Int)))) rfl
theorem toB_dig {d:Nat} (h:d<10):toB [((48+d:Nat):Int)]=[UInt8.ofNat (Int.toNat (IntKind.wrap .u8 (IntKind.wrap .u64 ((48:Int)+(d:Int)))))]:=by
  rw[wu64 (by omega) (by omega),wu8 (by omega) (by omega)]
  simp only[toB,List.map_cons,List.map_nil]
  rw[show ((48+d:Nat):Int)=(48:Int)+(d:Int) by omega]
theorem r01_text (n:Nat):∀(d u:Nat),u<10^(d+1)→u<18446744073709551616→d≤30→r01_Text (n+d+5) (ofN u)=some (toB (decI u)):=by
  intro d
  induction d with
  | zero =>
    intro u h hu hd
    have h10:u<10:=by simpa using h
    rw[r01_Text_eq,show (10:Int)=((10:Nat):Int) from rfl,r01_div (n+0) (by omega) (by omega) (by omega),obs,Nat.div_eq_of_lt h10,Nat.mod_eq_of_lt h10,ofN_zero,tfd,if_pos rfl,decI_small h10,toB_dig h10]
    simp only[ofN]
    rw[Nat.mod_eq_of_lt (by omega)]
  | succ d ih =>
    intro u h hu hd
    rw[r01_Text_eq,show n+(d+1)+4=(n+d+1)+4 by omega,show (10:Int)=((10:Nat):Int) from rfl,r01_div (n+d+1) (by omega) (by omega) (by omega),obs,ofN_zero,tfd]
    have hm:(ofN (u % 10)).2=((u % 10:Nat):Int):=by simp only[ofN];rw[Nat.mod_eq_of_lt (by omega)]
    by_cases h10:u<10
    · rw[if_pos (Nat.div_eq_of_lt h10),hm,Nat.mod_eq_of_lt h10,decI_small h10,toB_dig h10]
    · rw[if_neg (by omega)]
      have:=ih (u / 10) (by rw[Nat.div_lt_iff_lt_mul (by omega)];rw[Nat.pow_succ] at h;exact h) (by omega) (by omega)
      rw[show n+d+1+4=n+d+5 by omega,this,obs,toB_length]
      have hlen:(decI (u / 10)).length≤20:=by unfold decI;rw[dgs_len];exact ndg_le (by omega)
      rw[tfd,if_pos (by omega),decI_step (by omega) (Nat.lt_of_lt_of_le hu (by decide)),toB_append,toB_dig (by omega),hm]
theorem pow10_at {t:Nat} (h:t<20):at? ((1:Int)::((10:Int)::((100:Int)::((1000:Int)::((10000:Int)::((100000:Int)::((1000000:Int)::((10000000:Int)::((100000000:Int)::((1000000000:Int)::((10000000000:Int)::((100000000000:Int)::((1000000000000:Int)::((10000000000000:Int)::((100000000000000:Int)::((1000000000000000:Int)::((10000000000000000:Int)::((100000000000000000:Int)::((1000000000000000000:Int)::((10000000000000000000:Int)::[])))))))))))))))))))) (t:Int)=some ((10^t:Nat):Int):=by
  have:=List.all_eq_true.1 (show ((List.range 20).all fun t=>decide (at? ((1:Int)::((10:Int)::((100:Int)::((1000:Int)::((10000:Int)::((100000:Int)::((1000000:Int)::((10000000:Int)::((100000000:Int)::((1000000000:Int)::((10000000000:Int)::((100000000000:Int)::((1000000000000:Int)::((10000000000000:Int)::((100000000000000:Int)::((1000000000000000:Int)::((10000000000000000:Int)::((100000000000000000:Int)::((1000000000000000000:Int)::((10000000000000000000:Int)::[])))))))))))))))))))) (t:Int)=some ((10^t:Nat):Int)))=true by decide +kernel) t (List.mem_range.2 h)
  exact of_decide_eq_true this
theorem numDigits_val (n:Nat) {u:Nat} (h0:0<u) (h:u<18446744073709551616):strconv_numDigits (n+2) (u:Int)=some ((ndg u:Nat):Int):=by
  have hb:=(bl_spec 64 u h).2.2
  have hl:=lgt_lt hb
  rw[strconv_numDigits_eq,len64_val n h,obs,strconv_log10Pow2_eq,obs]
  have e:shrI .i64 (IntKind.wrap .i64 (((bl 64 u:Nat):Int)*(78913:Int))) (18:Int)=((lgt (bl 64 u):Nat):Int):=by
    rw[show ((bl 64 u:Nat):Int)*(78913:Int)=((bl 64 u*78913:Nat):Int) by omega,w64 (by omega) (by omega),show (18:Int)=((18:Nat):Int) from rfl,shr64 _ _ (by omega)]
    rfl
  rw[e,pow10_at hl,obs,strconv_bool2_int_eq,tfd,ndg_bl h0 h]
  by_cases hle:10^lgt (bl 64 u)≤u
  · rw[if_pos (by exact_mod_cast hle),if_pos hle,obs,w64 (by omega) (by omega)];rfl
  · rw[if_neg (fun k=>hle (by exact_mod_cast k)),if_neg hle,obs,w64 (by omega) (by omega)];rfl
theorem small_all (n:Nat):((List.range 100).all fun x=>match strconv_small (n+1) (x:Int) with | some r=>decide (r=toB (decI x)) | none=>false)=true:=by kernel_rfl
theorem small_val (n:Nat) {x:Nat} (h:x<100):strconv_small (n+1) (x:Int)=some (toB (decI x)):=by
  have:=List.all_eq_true.1 (small_all n) x (List.mem_range.2 h)
  cases hs:strconv_small (n+1) (x:Int) with
  | none=>simp only[hs] at this;cases this
  | some r=>simp only[hs,decide_eq_true_eq] at this;rw[this]
theorem at_tk0 {X:List Int} {len:Nat} (h:0<len) (hX:len≤X.length):∃y,at? (List.take len (List.drop 0 X)) (0:Int)=some y:=at_tk (i:=0) h hX
theorem last_dig {v:Nat} (h:v<10):IntKind.wrap .u8 (IntKind.wrap .u32 ((48:Int)+(v:Int)))=((48+v:Nat):Int):=by
  rw[show (48:Int)+(v:Int)=((48+v:Nat):Int) by omega,wu32 (by omega),wu8 (by omega) (by omega)]
theorem fill_take {U len:Nat} {L:List Int} (hL:len≤L.length) (h:∀j,j<len→L[j]? = some ((48+U / 10^(len-1-j) % 10:Nat):Int)):L.take len=dgs U len:=by
  refine dgs_of (by rw[List.length_take];omega) fun j hj => ?_
  rw[List.getElem?_take,if_pos hj];exact h j hj
theorem fb_val (n:Nat) {u len:Nat} (hu:u<18446744073709551616) (hlen:len≤20) (hd:u<10^len) (L0:List Int) (hL0:L0.length=24) :
    ∃L,strconv_formatBase10 (n+1) (L0,(0,len)) (u:Int)=some (L,(0,len))∧L.length=24∧L.take len=dgs u len:=by
  obtain ⟨L,h1,h2,h3⟩:=fb_l1 n (U:=u) (len:=len) (by omega) hu (len / 8) loopFuel len L0 rfl (by unfold loopFuel;omega) (Nat.le_refl _) (by omega) (fun j hj hj2=>by omega)
  rw[Nat.sub_self,Nat.pow_zero,Nat.div_one] at h1
  rw[strconv_formatBase10_eq]
  change ∃L,obind (strconv_formatBase10_l1 n loopFuel ((L0,(0,len)),((u:Int),((len:Int),())))) _=_∧_
  rw[h1,obs,selim_inl]
  have hv:u / 10^(len-len % 8)<10^(len % 8):=by
    rw[Nat.div_lt_iff_lt_mul (Nat.pow_pos (by omega)),←Nat.pow_add,show len % 8+(len-len % 8)=len by omega];exact hd
  have hk8:len % 8<8:=Nat.mod_lt _ (by omega)
  have hkl:len % 8≤len:=Nat.mod_le _ _
  have hdig:∀i,i<len % 8→u / 10^(len-1-(len % 8-1-i))=u / 10^(len-len % 8) / 10^i:=fun i hi=>dig_at u hkl hi
  rw[hL0] at h2
  generalize len % 8=k at *
  generalize u / 10^(len-k)=v at *
  have hv7:v<10000000:=Nat.lt_of_lt_of_le hv (Nat.le_trans (Nat.pow_le_pow_right (by omega) (show k≤7 by omega)) (by decide))
  have e1:IntKind.wrap .u32 (v:Int)=(v:Int):=wu32 (by omega)
  have leaf:∀L':List Int,L'.length=24→(∀j,j<len→L'[j]? = some ((48+u / 10^(len-1-j) % 10:Nat):Int))→∃L,some (L',((0:Nat),len))=some (L,(0,len))∧L.length=24∧L.take len=dgs u len :=
    fun L' a b=>⟨L',rfl,a,fill_take (by omega) b⟩
  simp only[tfd,e1]
  by_cases h4:4≤k
  · rw[if_pos (by omega)]
    have e2:IntKind.wrap .u32 (Int.tdiv (v:Int) (10000:Int))=((v / 10000:Nat):Int):=by rw[td10000,wu32 (by omega)]
    rw[tm10000,e2]
    generalize hx10:v % 10000=x10
    generalize hx:v / 10000=x
    have e3:IntKind.wrap .u32 (Int.tdiv (x10:Int) (100:Int))=((x10 / 100:Nat):Int):=by rw[td100,wu32 (by omega)]
    have e4:IntKind.wrap .u32 (Int.tdiv (x:Int) (100:Int))=((x / 100:Nat):Int):=by rw[td100,wu32 (by omega)]
    have w1:=sub64 (k:=k) (c:=1) (z:=1) rfl (by omega) (by omega)
    have w2:=sub64 (k:=k) (c:=2) (z:=2) rfl (by omega) (by omega)
    have w3:=sub64 (k:=k) (c:=3) (z:=3) rfl (by omega) (by omega)
    have w4:=sub64 (k:=k) (c:=4) (z:=4) rfl (by omega) (by omega)
    simp only[e3,e4,tm100,w1,w2,w3,w4,Int.toNat_natCast]
    rw[obind_of (sm_lo (x:=x10 % 100) (by omega)),obind_of (sm_hi (x:=x10 % 100) (by omega))]
    rw[obind_const (at_tk (by omega) (by first | omega | (simp only[List.length_set];omega))),obind_const (gi_tk (by first | omega | (simp only[List.length_set];omega)))]
    rw[obind_const (at_tk (by omega) (by first | omega | (simp only[List.length_set];omega))),obind_const (gi_tk (by first | omega | (simp only[List.length_set];omega)))]
    rw[obind_of (sm_lo (x:=x10 / 100) (by omega)),obind_of (sm_hi (x:=x10 / 100) (by omega))]
    rw[obind_const (at_tk (by omega) (by first | omega | (simp only[List.length_set];omega))),obind_const (gi_tk (by first | omega | (simp only[List.length_set];omega)))]
    rw[obind_const (at_tk (by omega) (by first | omega | (simp only[List.length_set];omega))),obind_const (gi_tk (by first | omega | (simp only[List.length_set];omega)))]
    by_cases h6:6≤k
    · rw[if_pos (by omega)]
      have v1:=sub64 (k:=k-4) (c:=1) (z:=1) rfl (by omega) (by omega)
      have v2:=sub64 (k:=k-4) (c:=2) (z:=2) rfl (by omega) (by omega)
      simp only[v1,v2,Int.toNat_natCast]
      rw[obind_of (sm_lo (x:=x % 100) (by omega)),obind_of (sm_hi (x:=x % 100) (by omega))]
      rw[obind_const (at_tk (by omega) (by first | omega | (simp only[List.length_set];omega))),obind_const (gi_tk (by first | omega | (simp only[List.length_set];omega)))]
      rw[obind_const (at_tk (by omega) (by first | omega | (simp only[List.length_set];omega))),obind_const (gi_tk (by first | omega | (simp only[List.length_set];omega)))]
      by_cases h7:k=7
      · subst h7
        rw[if_pos (by omega)]
        rw[obind_const (at_tk0 (by omega) (by first | omega | (simp only[List.length_set];omega))),obind_const (gi_tk (by first | omega | (simp only[List.length_set];omega)))]
        rw[last_dig (by omega)]
        simp only[Nat.zero_add]
        rw[u8d (d:=x10 % 100 % 10) (by omega),u8d (d:=x10 % 100 / 10) (by omega),u8d (d:=x10 / 100 % 10) (by omega),u8d (d:=x10 / 100 / 10) (by omega),u8d (d:=x % 100 % 10) (by omega),u8d (d:=x % 100 / 10) (by omega)]
        refine leaf _ (by simp only[List.length_set];exact h2) fun j hj => ?_
        by_cases hjk:7≤j
        · repeat rw[List.getElem?_set_ne (by omega)]
          exact h3 j hjk hj
        · have hc:j=6∨j=5∨j=4∨j=3∨j=2∨j=1∨j=0:=by omega
          rcases hc with hc | hc | hc | hc | hc | hc | hc
          · rw[hc,show u / 10^(len-1-(6))=v / 10^0 by have:=hdig 0 (by omega);rwa [show 7-1-0=6 by omega] at this,List.getElem?_set_ne (by omega),List.getElem?_set_ne (by omega),List.getElem?_set_ne (by omega),List.getElem?_set_ne (by omega),List.getElem?_set_ne (by omega),List.getElem?_set_ne (by omega),List.getElem?_set_self (by first | omega | (simp only[List.length_set];omega))]
            exact dig_eq (by simp only[Nat.reducePow];simp only[Nat.reducePow] at hv;omega)
          · rw[hc,show u / 10^(len-1-(5))=v / 10^1 by have:=hdig 1 (by omega);rwa [show 7-1-1=5 by omega] at this,List.getElem?_set_ne (by omega),List.getElem?_set_ne (by omega),List.getElem?_set_ne (by omega),List.getElem?_set_ne (by omega),List.getElem?_set_ne (by omega),List.getElem?_set_self (by first | omega | (simp only[List.length_set];omega))]
            exact dig_eq (by simp only[Nat.reducePow];simp only[Nat.reducePow] at hv;omega)
          · rw[hc,show u / 10^(len-1-(4))=v / 10^2 by have:=hdig 2 (by omega);rwa [show 7-1-2=4 by omega] at this,List.getElem?_set_ne (by omega),List.getElem?_set_ne (by omega),List.getElem?_set_ne (by omega),List.getElem?_set_ne (by omega),List.getElem?_set_self (by first | omega | (simp only[List.length_set];omega))]
            exact dig_eq (by simp only[Nat.reducePow];simp only[Nat.reducePow] at hv;omega)
          · rw[hc,show u / 10^(len-1-(3))=v / 10^3 by have:=hdig 3 (by omega);rwa [show 7-1-3=3 by omega] at this,List.getElem?_set_ne (by omega),List.getElem?_set_ne (by omega),List.getElem?_set_ne (by omega),List.getElem?_set_self (by first | omega | (simp only[List.length_set];omega))]
            exact dig_eq (by simp only[Nat.reducePow];simp only[Nat.reducePow] at hv;omega)
          · rw[hc,show u / 10^(len-1-(2))=v / 10^4 by have:=hdig 4 (by omega);rwa [show 7-1-4=2 by omega] at this,List.getElem?_set_ne (by omega),List.getElem?_set_ne (by omega),List.getElem?_set_self (by first | omega | (simp only[List.length_set];omega))]
            exact dig_eq (by simp only[Nat.reducePow];simp only[Nat.reducePow] at hv;omega)
          · rw[hc,show u / 10^(len-1-(1))=v / 10^5 by have:=hdig 5 (by omega);rwa [show 7-1-5=1 by omega] at this,List.getElem?_set_ne (by omega),List.getElem?_set_self (by first | omega | (simp only[List.length_set];omega))]
            exact dig_eq (by simp only[Nat.reducePow];simp only[Nat.reducePow] at hv;omega)
          · rw[hc,show u / 10^(len-1-(0))=v / 10^6 by have:=hdig 6 (by omega);rwa [show 7-1-6=0 by omega] at this,List.getElem?_set_self (by first | omega | (simp only[List.length_set];omega))]
            exact dig_eq (by simp only[Nat.reducePow];simp only[Nat.reducePow] at hv;omega)
      · have h6':k=6:=by omega
        subst h6'
        rw[if_neg (by omega)]
        simp only[Nat.zero_add]
        rw[u8d (d:=x10 % 100 % 10) (by omega),u8d (d:=x10 % 100 / 10) (by omega),u8d (d:=x10 / 100 % 10) (by omega),u8d (d:=x10 / 100 / 10) (by omega),u8d (d:=x % 100 % 10) (by omega),u8d (d:=x % 100 / 10) (by omega)]
        refine leaf _ (by simp only[List.length_set];exact h2) fun j hj => ?_
        by_cases hjk:6≤j
        · repeat rw[List.getElem?_set_ne (by omega)]
          exact h3 j hjk hj
        · have hc:j=5∨j=4∨j=3∨j=2∨j=1∨j=0:=by omega
          rcases hc with hc | hc | hc | hc | hc | hc
          · rw[hc,show u / 10^(len-1-(5))=v / 10^0 by have:=hdig 0 (by omega);rwa [show 6-1-0=5 by omega] at this,List.getElem?_set_ne (by omega),List.getElem?_set_ne (by omega),List.getElem?_set_ne (by omega),List.getElem?_set_ne (by omega),List.getElem?_set_ne (by omega),List.getElem?_set_self (by first | omega | (simp only[List.length_set];omega))]
            exact dig_eq (by simp only[Nat.reducePow];simp only[Nat.reducePow] at hv;omega)
          · rw[hc,show u / 10^(len-1-(4))=v / 10^1 by have:=hdig 1 (by omega);rwa [show 6-1-1=4 by omega] at this,List.getElem?_set_ne (by omega),List.getElem?_set_ne (by omega),List.getElem?_set_ne (by omega),List.getElem?_set_ne (by omega),List.getElem?_set_self (by first | omega | (simp only[List.length_set];omega))]
            exact dig_eq (by simp only[Nat.reducePow];simp only[Nat.reducePow] at hv;omega)
          · rw[hc,show u / 10^(len-1-(3))=v / 10^2 by have:=hdig 2 (by omega);rwa [show 6-1-2=3 by omega] at this,List.getElem?_set_ne (by omega),List.getElem?_set_ne (by omega),List.getElem?_set_ne (by omega),List.getElem?_set_self (by first | omega | (simp only[List.length_set];omega))]
            exact dig_eq (by simp only[Nat.reducePow];simp only[Nat.reducePow] at hv;omega)
          · rw[hc,show u / 10^(len-1-(2))=v / 10^3 by have:=hdig 3 (by omega);rwa [show 6-1-3=2 by omega] at this,List.getElem?_set_ne (by omega),List.getElem?_set_ne (by omega),List.getElem?_set_self (by first | omega | (simp only[List.length_set];omega))]
            exact dig_eq (by simp only[Nat.reducePow];simp only[Nat.reducePow] at hv;omega)
          · rw[hc,show u / 10^(len-1-(1))=v / 10^4 by have:=hdig 4 (by omega);rwa [show 6-1-4=1 by omega] at this,List.getElem?_set_ne (by omega),List.getElem?_set_self (by first | omega | (simp only[List.length_set];omega))]
            exact dig_eq (by simp only[Nat.reducePow];simp only[Nat.reducePow] at hv;omega)
          · rw[hc,show u / 10^(len-1-(0))=v / 10^5 by have:=hdig 5 (by omega);rwa [show 6-1-5=0 by omega] at this,List.getElem?_set_self (by first | omega | (simp only[List.length_set];omega))]
            exact dig_eq (by simp only[Nat.reducePow];simp only[Nat.reducePow] at hv;omega)
    · rw[if_neg (by omega)]
      by_cases h5:k=5
      · subst h5
        rw[if_pos (by omega)]
        rw[obind_const (at_tk0 (by omega) (by first | omega | (simp only[List.length_set];omega))),obind_const (gi_tk (by first | omega | (simp only[List.length_set];omega)))]
        have hx9:x<10:=by simp only[Nat.reducePow] at hv;omega
        rw[last_dig hx9]
        simp only[Nat.zero_add]
        rw[u8d (d:=x10 % 100 % 10) (by omega),u8d (d:=x10 % 100 / 10) (by omega),u8d (d:=x10 / 100 % 10) (by omega),u8d (d:=x10 / 100 / 10) (by omega)]
        refine leaf _ (by simp only[List.length_set];exact h2) fun j hj => ?_
        by_cases hjk:5≤j
        · repeat rw[List.getElem?_set_ne (by omega)]
          exact h3 j hjk hj
        · have hc:j=4∨j=3∨j=2∨j=1∨j=0:=by omega
          rcases hc with hc | hc | hc | hc | hc
          · rw[hc,show u / 10^(len-1-(4))=v / 10^0 by have:=hdig 0 (by omega);rwa [show 5-1-0=4 by omega] at this,List.getElem?_set_ne (by omega),List.getElem?_set_ne (by omega),List.getElem?_set_ne (by omega),List.getElem?_set_ne (by omega),List.getElem?_set_self (by first | omega | (simp only[List.length_set];omega))]
            exact dig_eq (by simp only[Nat.reducePow];simp only[Nat.reducePow] at hv;omega)
          · rw[hc,show u / 10^(len-1-(3))=v / 10^1 by have:=hdig 1 (by omega);rwa [show 5-1-1=3 by omega] at this,List.getElem?_set_ne (by omega),List.getElem?_set_ne (by omega),List.getElem?_set_ne (by omega),List.getElem?_set_self (by first | omega | (simp only[List.length_set];omega))]
            exact dig_eq (by simp only[Nat.reducePow];simp only[Nat.reducePow] at hv;omega)
          · rw[hc,show u / 10^(len-1-(2))=v / 10^2 by have:=hdig 2 (by omega);rwa [show 5-1-2=2 by omega] at this,List.getElem?_set_ne (by omega),List.getElem?_set_ne (by omega),List.getElem?_set_self (by first | omega | (simp only[List.length_set];omega))]
            exact dig_eq (by simp only[Nat.reducePow];simp only[Nat.reducePow] at hv;omega)
          · rw[hc,show u / 10^(len-1-(1))=v / 10^3 by have:=hdig 3 (by omega);rwa [show 5-1-3=1 by omega] at this,List.getElem?_set_ne (by omega),List.getElem?_set_self (by first | omega | (simp only[List.length_set];omega))]
            exact dig_eq (by simp only[Nat.reducePow];simp only[Nat.reducePow] at hv;omega)
          · rw[hc,show u / 10^(len-1-(0))=v / 10^4 by have:=hdig 4 (by omega);rwa [show 5-1-4=0 by omega] at this,List.getElem?_set_self (by first | omega | (simp only[List.length_set];omega))]
            exact dig_eq (by simp only[Nat.reducePow];simp only[Nat.reducePow] at hv;omega)
      · have h4':k=4:=by omega
        subst h4'
        rw[if_neg (by omega)]
        simp only[Nat.zero_add]
        rw[u8d (d:=x10 % 100 % 10) (by omega),u8d (d:=x10 % 100 / 10) (by omega),u8d (d:=x10 / 100 % 10) (by omega),u8d (d:=x10 / 100 / 10) (by omega)]
        refine leaf _ (by simp only[List.length_set];exact h2) fun j hj => ?_
        by_cases hjk:4≤j
        · repeat rw[List.getElem?_set_ne (by omega)]
          exact h3 j hjk hj
        · have hc:j=3∨j=2∨j=1∨j=0:=by omega
          rcases hc with hc | hc | hc | hc
          · rw[hc,show u / 10^(len-1-(3))=v / 10^0 by have:=hdig 0 (by omega);rwa [show 4-1-0=3 by omega] at this,List.getElem?_set_ne (by omega),List.getElem?_set_ne (by omega),List.getElem?_set_ne (by omega),List.getElem?_set_self (by first | omega | (simp only[List.length_set];omega))]
            exact dig_eq (by simp only[Nat.reducePow];simp only[Nat.reducePow] at hv;omega)
          · rw[hc,show u / 10^(len-1-(2))=v / 10^1 by have:=hdig 1 (by omega);rwa [show 4-1-1=2 by omega] at this,List.getElem?_set_ne (by omega),List.getElem?_set_ne (by omega),List.getElem?_set_self (by first | omega | (simp only[List.length_set];omega))]
            exact dig_eq (by simp only[Nat.reducePow];simp only[Nat.reducePow] at hv;omega)
          · rw[hc,show u / 10^(len-1-(1))=v / 10^2 by have:=hdig 2 (by omega);rwa [show 4-1-2=1 by omega] at this,List.getElem?_set_ne (by omega),List.getElem?_set_self (by first | omega | (simp only[List.length_set];omega))]
            exact dig_eq (by simp only[Nat.reducePow];simp only[Nat.reducePow] at hv;omega)
          · rw[hc,show u / 10^(len-1-(0))=v / 10^3 by have:=hdig 3 (by omega);rwa [show 4-1-3=0 by omega] at this,List.getElem?_set_self (by first | omega | (simp only[List.length_set];omega))]
            exact dig_eq (by simp only[Nat.reducePow];simp only[Nat.reducePow] at hv;omega)
  · rw[if_neg (by omega)]
    have e4:IntKind.wrap .u32 (Int.tdiv (v:Int) (100:Int))=((v / 100:Nat):Int):=by rw[td100,wu32 (by omega)]
    by_cases h2':2≤k
    · rw[if_pos (by omega)]
      have w1:=sub64 (k:=k) (c:=1) (z:=1) rfl (by omega) (by omega)
      have w2:=sub64 (k:=k) (c:=2) (z:=2) rfl (by omega) (by omega)
      simp only[e4,tm100,w1,w2,Int.toNat_natCast]
      rw[obind_of (sm_lo (x:=v % 100) (by omega)),obind_of (sm_hi (x:=v % 100) (by omega))]
      rw[obind_const (at_tk (by omega) (by first | omega | (simp only[List.length_set];omega))),obind_const (gi_tk (by first | omega | (simp only[List.length_set];omega)))]
      rw[obind_const (at_tk (by omega) (by first | omega | (simp only[List.length_set];omega))),obind_const (gi_tk (by first | omega | (simp only[List.length_set];omega)))]
      by_cases h3':k=3
      · subst h3'
        rw[if_pos (by omega)]
        rw[obind_const (at_tk0 (by omega) (by first | omega | (simp only[List.length_set];omega))),obind_const (gi_tk (by first | omega | (simp only[List.length_set];omega)))]
        have hx9:v / 100<10:=by simp only[Nat.reducePow] at hv;omega
        rw[last_dig hx9]
        simp only[Nat.zero_add]
        rw[u8d (d:=v % 100 % 10) (by omega),u8d (d:=v % 100 / 10) (by omega)]
        refine leaf _ (by simp only[List.length_set];exact h2) fun j hj => ?_
        by_cases hjk:3≤j
        · repeat rw[List.getElem?_set_ne (by omega)]
          exact h3 j hjk hj
        · have hc:j=2∨j=1∨j=0:=by omega
          rcases hc with hc | hc | hc
          · rw[hc,show u / 10^(len-1-(2))=v / 10^0 by have:=hdig 0 (by omega);rwa [show 3-1-0=2 by omega] at this,List.getElem?_set_ne (by omega),List.getElem?_set_ne (by omega),List.getElem?_set_self (by first | omega | (simp only[List.length_set];omega))]
            exact dig_eq (by simp only[Nat.reducePow];simp only[Nat.reducePow] at hv;omega)
          · rw[hc,show u / 10^(len-1-(1))=v / 10^1 by have:=hdig 1 (by omega);rwa [show 3-1-1=1 by omega] at this,List.getElem?_set_ne (by omega),List.getElem?_set_self (by first | omega | (simp only[List.length_set];omega))]
            exact dig_eq (by simp only[Nat.reducePow];simp only[Nat.reducePow] at hv;omega)
          · rw[hc,show u / 10^(len-1-(0))=v / 10^2 by have:=hdig 2 (by omega);rwa [show 3-1-2=0 by omega] at this,List.getElem?_set_self (by first | omega | (simp only[List.length_set];omega))]
            exact dig_eq (by simp only[Nat.reducePow];simp only[Nat.reducePow] at hv;omega)
      · have h2'':k=2:=by omega
        subst h2''
        rw[if_neg (by omega)]
        simp only[Nat.zero_add]
        rw[u8d (d:=v % 100 % 10) (by omega),u8d (d:=v % 100 / 10) (by omega)]
        refine leaf _ (by simp only[List.length_set];exact h2) fun j hj => ?_
        by_cases hjk:2≤j
        · repeat rw[List.getElem?_set_ne (by omega)]
          exact h3 j hjk hj
        · have hc:j=1∨j=0:=by omega
          rcases hc with hc | hc
          · rw[hc,show u / 10^(len-1-(1))=v / 10^0 by have:=hdig 0 (by omega);rwa [show 2-1-0=1 by omega] at this,List.getElem?_set_ne (by omega),List.getElem?_set_self (by first | omega | (simp only[List.length_set];omega))]
            exact dig_eq (by simp only[Nat.reducePow];simp only[Nat.reducePow] at hv;omega)
          · rw[hc,show u / 10^(len-1-(0))=v / 10^1 by have:=hdig 1 (by omega);rwa [show 2-1-1=0 by omega] at this,List.getElem?_set_self (by first | omega | (simp only[List.length_set];omega))]
            exact dig_eq (by simp only[Nat.reducePow];simp only[Nat.reducePow] at hv;omega)
    · rw[if_neg (by omega)]
      by_cases h1':k=1
      · subst h1'
        rw[if_pos (by omega)]
        rw[obind_const (at_tk0 (by omega) (by omega)),obind_const (gi_tk (by omega))]
        have hx9:v<10:=by simpa using hv
        rw[last_dig hx9]
        simp only[Nat.zero_add]
        refine leaf _ (by simp only[List.length_set];exact h2) fun j hj => ?_
        by_cases hjk:1≤j
        · rw[List.getElem?_set_ne (by omega)]
          exact h3 j hjk hj
        · have hc:j=0:=by omega
          rcases hc with hc
          · rw[hc,show u / 10^(len-1-(0))=v / 10^0 by have:=hdig 0 (by omega);rwa [show 1-1-0=0 by omega] at this,List.getElem?_set_self (by first | omega | (simp only[List.length_set];omega))]
            exact dig_eq (by simp only[Nat.reducePow];simp only[Nat.reducePow] at hv;omega)
      · rw[if_neg (by omega)]
        exact leaf _ h2 fun j hj=>h3 j (by omega) hj
theorem appendUint_val (n:Nat) {u:Nat} (h:u<18446744073709551616) (dst:List Int) (hd:dst.length≤1000000):strconv_AppendUint_ (n+3) dst (u:Int) (10:Int)=some (dst++decI u):=by
  have hlen:(decI u).length≤20:=by unfold decI;rw[dgs_len];exact ndg_le h
  rw[strconv_AppendUint__eq]
  simp only[tfd]
  rw[if_pos trivial]
  by_cases hs:u<100
  · have e:(List.map (fun y=>((UInt8.toNat y:Nat):Int)) (toB (decI u)))=decI u:=bytesI_toB fun x hx=>by have:=decI_range u x hx;omega
    rw[if_pos (by omega),w64 (by omega) (by omega),small_val (n+1) hs,obs,e,if_pos (by omega)]
  · have hnd:=ndg_le h
    rw[if_neg (by omega),numDigits_val n (by omega) h,obs,tif_ite,if_pos (by simp only[Bool.and_eq_true,decide_eq_true_eq];omega),Int.toNat_natCast,Nat.sub_zero]
    obtain ⟨L,h1,h2,h3⟩:=fb_val (n+1) h hnd (ndg_hi h) (List.replicate 24 (0:Int)) List.length_replicate
    rw[h1,obs,tif_ite,if_pos (by simp[h2]),if_pos h2,tif_ite,if_pos (by simp only[Bool.and_eq_true,decide_eq_true_eq];omega),List.drop_zero,h3,if_pos (by rw[dgs_len];omega)]
    rfl
theorem appendInt_val (n:Nat) {i:Int} (h0 : -9223372036854775808≤i) (h1:i≤9223372036854775807) (dst:List Int) (hd:dst.length≤900000):strconv_AppendInt (n+5) dst i (10:Int)=some (dst++itoI i):=by
  rw[strconv_AppendInt_eq,strconv_AppendInt__eq]
  simp only[tfd]
  unfold itoI
  by_cases hn:i<0
  · rw[if_pos hn,if_pos hn,if_pos (by omega)]
    have e:IntKind.wrap .u64 ((0:Int)-(IntKind.wrap .u64 i))=((i.natAbs:Nat):Int):=by rw[IntKind.wrap_u64,IntKind.wrap_u64];omega
    rw[e,appendUint_val n (by omega) _ (by simp only[List.length_append,List.length_cons,List.length_nil];omega),obs,obs,List.append_assoc];rfl
  · rw[if_neg hn,if_neg hn,wu64 (by omega) (by omega)]
    have e:i=((i.toNat:Nat):Int):=by omega
    rw[show strconv_AppendUint_ (n+3) dst i 10=strconv_AppendUint_ (n+3) dst ((i.toNat:Nat):Int) 10 by rw[←e],appendUint_val n (by omega) _ (by omega),obs,obs]
theorem itoI_len {i:Int} (h0 : -9223372036854775808≤i) (h1:i≤9223372036854775807):(itoI i).length≤21:=by
  unfold itoI decI
  split
  · rw[List.length_cons,dgs_len];have:=ndg_le (u:=i.natAbs) (by omega);omega
  · rw[dgs_len];have:=ndg_le (u:=i.toNat) (by omega);omega
theorem r33_num_val (n:Nat) {i:Int} (h0 : -9223372036854775808≤i) (h1:i≤9223372036854775807):r33_num (n+25) i=some (toB (itoI i)):=by
  rw[r33_num_eq,tfd]
  have hp:(18446744073709551616:Nat)≤10^(19+1):=by decide
  unfold itoI
  by_cases hn:i<0
  · rw[if_pos hn,if_pos hn]
    have e:(IntKind.wrap .u64 ((IntKind.wrap .u64 (IntKind.wrap .i64 ((0:Int)-(IntKind.wrap .i64 (i+(1:Int))))))+(1:Int)))=((i.natAbs:Nat):Int):=by
      rw[w64 (x:=i+1) (by omega) (by omega),w64 (by omega) (by omega),wu64 (x:=(0:Int)-(i+1)) (by omega) (by omega),wu64 (by omega) (by omega)];omega
    rw[e,lo_ofN (by omega),r01_text n 19 i.natAbs (by omega) (by omega) (by omega),obs,toB_length,tfd]
    have hlen:(decI i.natAbs).length≤20:=by unfold decI;rw[dgs_len];exact ndg_le (by omega)
    rw[if_pos (by omega)];rfl
  · rw[if_neg hn,if_neg hn,wu64 (by omega) (by omega)]
    have e:i=((i.toNat:Nat):Int):=by omega
    rw[show ((0:Int),i)=(((0:Int),((i.toNat:Nat):Int)):Wd) by rw[←e],lo_ofN (by omega),r01_text n 19 i.toNat (by omega) (by omega) (by omega),obs]
def I64P (i:Int):Prop := -9223372036854775808≤i∧i≤9223372036854775807
def itos (l:List Int):List Int:=l.flatMap fun x=>(32:Int)::itoI x
theorem itos_cons (x:Int) (l:List Int):itos (x::l)=((32:Int)::itoI x)++itos l:=by simp[itos]
theorem part_l4 (n:Nat) (l:List Int) (hl:l.length≤1000) (hw:∀x∈l,I64P x):∀(rest pre:List Int) (f:Nat) (w:List Int) (i:Int),l=pre++rest→i=pre.length→rest.length<f→w.length+22*rest.length≤800000 →
    stat_writer_part_l4 (n+5) f (w,(l,((((List.length l):Nat):Int),(i,()))))=some (.inl (w++itos rest,())):=by
  intro rest
  induction rest with
  | nil =>
    intro pre f w i he hi hf hlen
    obtain ⟨f,rfl⟩:∃g,f=g+1:=⟨f-1,by omega⟩
    rw[stat_writer_part_l4_eq]
    simp only[tfd]
    rw[if_neg (by rw[he];simp;omega)]
    simp[itos]
  | cons x rest ih =>
    intro pre f w i he hi hf hlen
    obtain ⟨f,rfl⟩:∃g,f=g+1:=⟨f-1,by simp at hf;omega⟩
    simp only[List.length_cons] at hf hlen
    have hx:l[pre.length]? = some x:=by rw[he];simp
    have hxm:x∈l:=by rw[he];simp
    obtain ⟨x0,x1⟩:=hw x hxm
    have hil:=itoI_len x0 x1
    have hnext:IntKind.wrap .i64 (i+(1:Int))=((pre++[x]).length:Int):=by
      rw[he] at hl
      simp only[List.length_append,List.length_cons] at hl ⊢
      rw[w64 (by omega) (by omega)];simp;omega
    rw[stat_writer_part_l4_eq]
    simp only[tfd]
    rw[if_pos (by rw[he,hi];simp;omega),hi,at_el hx,obs,if_pos (by omega),appendInt_val n x0 x1 _ (by simp;omega),obs]
    have:=ih (pre++[x]) f (w++[(32:Int)]++itoI x) _ (by rw[he];simp) hnext (by omega) (by simp only[List.length_append,List.length_cons,List.length_nil];omega)
    rw[hi] at this
    rw[show w++(32:Int)::[]=w++[(32:Int)] from rfl,this,itos_cons]
    simp
def partV (w:List Int) (word:List UInt8) (l:List Int):List Int:=(if 0<w.length then w++[(44:Int),32] else w)++(bytesI word++itos l)
theorem part_val (n:Nat) (w:List Int) (word:List UInt8) (l:List Int) (hw:w.length≤100000) (hword:word.length≤1000) (hl:l.length≤1000) (hr:∀x∈l,I64P x) :
    stat_writer_part (n+6) w word l=some (partV w word l):=by
  rw[stat_writer_part_eq]
  simp only[tfd,List.length_map]
  unfold partV
  by_cases h0:0<w.length
  · rw[if_pos (by omega),if_pos (by omega),if_pos (by simp;omega),if_pos h0]
    have:=part_l4 n l hl hr l [] loopFuel ((w++[(44:Int),32])++bytesI word) 0 rfl rfl (by unfold loopFuel;omega) (by simp[bytesI];omega)
    refine (obind_of this _).trans ?_
    simp
  · rw[if_neg (by omega),if_pos (by omega),if_neg h0]
    have:=part_l4 n l hl hr l [] loopFuel (w++bytesI word) 0 rfl rfl (by unfold loopFuel;omega) (by simp[bytesI];omega)
    refine (obind_of this _).trans ?_
    simp
theorem itos_len:∀(l:List Int),(∀x∈l,I64P x)→(itos l).length≤22*l.length:=by
  intro l
  induction l with
  | nil=>intro _;simp[itos]
  | cons x l ih =>
    intro h
    have:=ih fun y hy=>h y (by simp[hy])
    obtain ⟨x0,x1⟩:=h x (by simp)
    have:=itoI_len x0 x1
    rw[itos_cons]
    simp only[List.length_append,List.length_cons];omega
theorem part_len (w:List Int) (word:List UInt8) (l:List Int) (hr:∀x∈l,I64P x):(partV w word l).length≤w.length+2+word.length+22*l.length:=by
  have:=itos_len l hr
  unfold partV
  split<;>simp only[List.length_append,bytesI_length,List.length_cons,List.length_nil]<;>omega
theorem part_pos (w:List Int) {word:List UInt8} (l:List Int) (h:0<word.length):0<(partV w word l).length:=by
  unfold partV
  simp only[List.length_append,bytesI_length];omega
structure StW (t:TStats):Prop where
  a:I64P t.1
  b:I64P t.2.1
  c:I64P t.2.2.1
  d:I64P t.2.2.2.1
  e:I64P t.2.2.2.2.1
  f:I64P t.2.2.2.2.2.1.1
  g:I64P t.2.2.2.2.2.1.2.1
  h:I64P t.2.2.2.2.2.1.2.2
  i:I64P t.2.2.2.2.2.2
def wLive:List UInt8:=[108,105,118,101]
def wDead:List UInt8:=[100,101,97,100]
def wEmpty:List UInt8:=[101,109,112,116,121]
def wEvents:List UInt8:=[101,118,101,110,116,115]
def wLost:List UInt8:=[108,111,115,116]
def wSlots:List UInt8:=[115,108,111,116,115]
def wDue:List UInt8:=[100,117,101]
def textV (t:TStats):List Int :=
  partV (partV (partV (partV (partV (partV (partV [] wLive [t.1]) wDead [t.2.1]) wEmpty [t.2.2.1]) wEvents [t.2.2.2.1]) wLost [t.2.2.2.2.1]) wSlots [t.2.2.2.2.2.1.1,t.2.2.2.2.2.1.2.1,t.2.2.2.2.2.1.2.2]) wDue [t.2.2.2.2.2.2]
theorem one_r {x:Int} (h:I64P x):∀y∈[x],I64P y:=by intro y hy;rw[List.mem_singleton.1 hy];exact h
theorem stat_text (n:Nat) {t:TStats} (h:StW t):stat_Text (n+7) t=some (toB (textV t)):=by
  have k1:=part_len [] wLive [t.1] (one_r h.a)
  have k2:=part_len (partV [] wLive [t.1]) wDead [t.2.1] (one_r h.b)
  have k3:=part_len (partV (partV [] wLive [t.1]) wDead [t.2.1]) wEmpty [t.2.2.1] (one_r h.c)
  have k4:=part_len (partV (partV (partV [] wLive [t.1]) wDead [t.2.1]) wEmpty [t.2.2.1]) wEvents [t.2.2.2.1] (one_r h.d)
  have k5:=part_len (partV (partV (partV (partV [] wLive [t.1]) wDead [t.2.1]) wEmpty [t.2.2.1]) wEvents [t.2.2.2.1]) wLost [t.2.2.2.2.1] (one_r h.e)
  have r3:∀y∈[t.2.2.2.2.2.1.1,t.2.2.2.2.2.1.2.1,t.2.2.2.2.2.1.2.2],I64P y:=by
    intro y hy
    simp only[List.mem_cons,List.not_mem_nil,or_false] at hy
    rcases hy with rfl | rfl | rfl
    · exact h.f
    · exact h.g
    · exact h.h
  have k6:=part_len (partV (partV (partV (partV (partV [] wLive [t.1]) wDead [t.2.1]) wEmpty [t.2.2.1]) wEvents [t.2.2.2.1]) wLost [t.2.2.2.2.1]) wSlots _ r3
  simp only[wLive,wDead,wEmpty,wEvents,wLost,wSlots,List.length_cons,List.length_nil] at k1 k2 k3 k4 k5 k6
  rw[stat_Text_eq]
  refine (obind_of (part_val n [] wLive [t.1] (by simp) (by decide) (by simp) (one_r h.a)) _).trans ?_
  refine (obind_of (part_val n _ wDead [t.2.1] (by simp only[wLive];omega) (by decide) (by simp) (one_r h.b)) _).trans ?_
  refine (obind_of (part_val n _ wEmpty [t.2.2.1] (by simp only[wLive,wDead];omega) (by decide) (by simp) (one_r h.c)) _).trans ?_
  refine (obind_of (part_val n _ wEvents [t.2.2.2.1] (by simp only[wLive,wDead,wEmpty];omega) (by decide) (by simp) (one_r h.d)) _).trans ?_
  refine (obind_of (part_val n _ wLost [t.2.2.2.2.1] (by simp only[wLive,wDead,wEmpty,wEvents];omega) (by decide) (by simp) (one_r h.e)) _).trans ?_
  refine (obind_of (part_val n _ wSlots _ (by simp only[wLive,wDead,wEmpty,wEvents,wLost];omega) (by decide) (by simp) r3) _).trans ?_
  refine (obind_of (part_val n _ wDue [t.2.2.2.2.2.2] (by simp only[wLive,wDead,wEmpty,wEvents,wLost,wSlots];omega) (by decide) (by simp) (one_r h.i)) _).trans ?_
  rfl
theorem part_toB (w:List Int) (h:0<w.length) (word:List UInt8) (x:Int):toB (partV w word [x])=toB w++((44:UInt8)::32::word++[(32:UInt8)])++toB (itoI x):=by
  unfold partV
  rw[if_pos h]
  simp[toB_append,toB_bytesI,itos]
  simp[toB]
  exact toB_bytesI word
theorem part_toB3 (w:List Int) (h:0<w.length) (word:List UInt8) (x y z:Int):toB (partV w word [x,y,z])=toB w++((44:UInt8)::32::word++[(32:UInt8)])++toB (itoI x)++[(32:UInt8)]++toB (itoI y)++[(32:UInt8)]++toB (itoI z):=by
  unfold partV
  rw[if_pos h]
  simp[toB_append,toB_bytesI,itos]
  simp[toB]
  exact toB_bytesI word
theorem part_toB0 (word:List UInt8) (x:Int):toB (partV [] word [x])=(word++[(32:UInt8)])++toB (itoI x):=by
  unfold partV
  simp[toB_append,toB_bytesI,itos]
  simp[toB]
theorem r33_text (n:Nat) {t:TStats} (h:StW t):r33_Text (n+26) t=some (toB (textV t)):=by
  have l1:=itoI_len h.a.1 h.a.2
  have l2:=itoI_len h.b.1 h.b.2
  have l3:=itoI_len h.c.1 h.c.2
  have l4:=itoI_len h.d.1 h.d.2
  have l5:=itoI_len h.e.1 h.e.2
  have l6:=itoI_len h.f.1 h.f.2
  have l7:=itoI_len h.g.1 h.g.2
  have l8:=itoI_len h.h.1 h.h.2
  have l9:=itoI_len h.i.1 h.i.2
  rw[r33_Text_eq,r33_num_val n h.a.1 h.a.2,r33_num_val n h.b.1 h.b.2,r33_num_val n h.c.1 h.c.2,r33_num_val n h.d.1 h.d.2,r33_num_val n h.e.1 h.e.2,r33_num_val n h.f.1 h.f.2,r33_num_val n h.g.1 h.g.2,r33_num_val n h.h.1 h.h.2,r33_num_val n h.i.1 h.i.2]
  simp only[obs,tfd,List.length_append,List.length_cons,List.length_nil,toB_length]
  repeat rw[if_pos (by omega)]
  unfold textV
  rw[part_toB _ (part_pos _ _ (by decide)),part_toB3 _ (part_pos _ _ (by decide)),part_toB _ (part_pos _ _ (by decide)),part_toB _ (part_pos _ _ (by decide)),part_toB _ (part_pos _ _ (by decide)),part_toB _ (part_pos _ _ (by decide)),part_toB0]
  rfl
end Go.Proofs.YtjeabebacegikaaGreatDoor
namespace Go.Proofs.YtjeabebacegikaaGreatDoor
open Go.Flat
theorem ob {α β:Type} {o:Option α} {x:α} {f:α→Option β} {r:Option β} (h:o=some x) (k:f x=r):obind o f=r:=by rw[h];exact k
theorem tt {α:Type} {b:Bool} {x y r:α} (h:b=true) (k:x=r):tif b x y=r:=by rw[h];exact k
theorem tf {α:Type} {b:Bool} {x y r:α} (h:b=false) (k:y=r):tif b x y=r:=by rw[h];exact k
end Go.Proofs.YtjeabebacegikaaGreatDoor
namespace Go.Proofs.YtjeabebacegikaaGreatDoor
open Go.Flat
set_option linter.unusedVariables false
theorem lvl33_lives_eq (n:Nat)  : l33_lives (n+1)  =
  obind (l10_Fit n ) fun r0 =>
  obind (stt_New n r0) fun r1 =>
  tif ((!(decide (r1.2=(0:Int))))) (
  some false) (
  obind (write_One n r1.1 ((((97:UInt8)::[]),[])::[]) ((5:Int),((1:Int),((0:Int),false)))) fun r2 =>
  obind (stat_Of n r2.1) fun r3 =>
  obind (stat_Of n (((0:Int),(((0:Int),((0:Int),(0:Int))),(((0:Int),((0:Int),(0:Int))),((0:Int),(0:Int))))),((0:Int),((0:Int),[])))) fun r4 =>
  tif ((decide (r2.2=(0:Int)))) (
  tif (((decide (r3.1.1=(1:Int)))&&((decide (r3.1.2.1=(0:Int)))&&((decide (r3.1.2.2.1=(2:Int)))&&((decide (r3.1.2.2.2.1=(1:Int)))&&((decide (r3.1.2.2.2.2.1=(0:Int)))&&((decide (r3.1.2.2.2.2.2.1.1=(0:Int)))&&((decide (r3.1.2.2.2.2.2.1.2.1=(0:Int)))&&((decide (r3.1.2.2.2.2.2.1.2.2=(0:Int)))&&(decide (r3.1.2.2.2.2.2.2=(0:Int)))))))))))) (
  tif ((decide (r3.2=(0:Int)))) (
  tif ((decide (r4.2=(2:Int)))) (
  obind (stat_Text n ((1:Int),((0:Int),((0:Int),((0:Int),(((-2):Int),(((4:Int),((5:Int),(6:Int))),(7:Int)))))))) fun r5 =>
  tif ((r5==((108:UInt8)::((105:UInt8)::((118:UInt8)::((101:UInt8)::((32:UInt8)::((49:UInt8)::((44:UInt8)::((32:UInt8)::((100:UInt8)::((101:UInt8)::((97:UInt8)::((100:UInt8)::((32:UInt8)::((48:UInt8)::((44:UInt8)::((32:UInt8)::((101:UInt8)::((109:UInt8)::((112:UInt8)::((116:UInt8)::((121:UInt8)::((32:UInt8)::((48:UInt8)::((44:UInt8)::((32:UInt8)::((101:UInt8)::((118:UInt8)::((101:UInt8)::((110:UInt8)::((116:UInt8)::((115:UInt8)::((32:UInt8)::((48:UInt8)::((44:UInt8)::((32:UInt8)::((108:UInt8)::((111:UInt8)::((115:UInt8)::((116:UInt8)::((32:UInt8)::((45:UInt8)::((50:UInt8)::((44:UInt8)::((32:UInt8)::((115:UInt8)::((108:UInt8)::((111:UInt8)::((116:UInt8)::((115:UInt8)::((32:UInt8)::((52:UInt8)::((32:UInt8)::((53:UInt8)::((32:UInt8)::((54:UInt8)::((44:UInt8)::((32:UInt8)::((100:UInt8)::((117:UInt8)::((101:UInt8)::((32:UInt8)::((55:UInt8)::[])))))))))))))))))))))))))))))))))))))))))))))))))))))))))))))))) (
  obind (stat_Full n r2.1) fun r6 =>
  some (!r6)) (
  some false)) (
  some false)) (
  some false)) (
  some false)) (
  some false)):=by kernel_rfl
theorem lvl33_lives_0 (n:Nat):l10_Fit (n+39)=some (20,((10,(20,60)),((4,(5,6)),(3,9)))):=by kernel_rfl
theorem lvl33_lives_1 (n:Nat):stt_New (n+39) (20,((10,(20,60)),((4,(5,6)),(3,9))))=some (((20,((10,(20,60)),((4,(5,6)),(3,9)))),(0,((-1),[([],(0,((0,(0,[])),(([],([],[])),(0,(0,((0,(0,(0,false))),((0,(0,(0,false))),((0,0),(0,(0,0))))))))))),([],(0,((0,(0,[])),(([],([],[])),(0,(0,((0,(0,(0,false))),((0,(0,(0,false))),((0,0),(0,(0,0))))))))))),([],(0,((0,(0,[])),(([],([],[])),(0,(0,((0,(0,(0,false))),((0,(0,(0,false))),((0,0),(0,(0,0)))))))))))]))),0):=by kernel_rfl
theorem lvl33_lives_2 (n:Nat):write_One (n+39) ((20,((10,(20,60)),((4,(5,6)),(3,9)))),(0,((-1),[([],(0,((0,(0,[])),(([],([],[])),(0,(0,((0,(0,(0,false))),((0,(0,(0,false))),((0,0),(0,(0,0))))))))))),([],(0,((0,(0,[])),(([],([],[])),(0,(0,((0,(0,(0,false))),((0,(0,(0,false))),((0,0),(0,(0,0))))))))))),([],(0,((0,(0,[])),(([],([],[])),(0,(0,((0,(0,(0,false))),((0,(0,(0,false))),((0,0),(0,(0,0)))))))))))]))) [([97],[])] (5,(1,(0,false)))=some (((20,((10,(20,60)),((4,(5,6)),(3,9)))),(0,((-1),[([([97],[])],(5,((0,(0,[(5,(1,(0,false)))])),(([(0,(0,((0,(0,(0,false))),((0,(0,(0,false))),((0,0),(0,(0,0))))))),(0,(0,((0,(0,(0,false))),((0,(0,(0,false))),((0,0),(0,(0,0))))))),(0,(0,((0,(0,(0,false))),((0,(0,(0,false))),((0,0),(0,(0,0))))))),(0,(0,((0,(0,(0,false))),((0,(0,(0,false))),((0,0),(0,(0,0)))))))],([(0,(0,((0,(0,(0,false))),((0,(0,(0,false))),((0,0),(0,(0,0))))))),(0,(0,((0,(0,(0,false))),((0,(0,(0,false))),((0,0),(0,(0,0))))))),(0,(0,((0,(0,(0,false))),((0,(0,(0,false))),((0,0),(0,(0,0))))))),(0,(0,((0,(0,(0,false))),((0,(0,(0,false))),((0,0),(0,(0,0))))))),(0,(0,((0,(0,(0,false))),((0,(0,(0,false))),((0,0),(0,(0,0)))))))],[(0,(0,((0,(0,(0,false))),((0,(0,(0,false))),((0,0),(0,(0,0))))))),(0,(0,((0,(0,(0,false))),((0,(0,(0,false))),((0,0),(0,(0,0))))))),(0,(0,((0,(0,(0,false))),((0,(0,(0,false))),((0,0),(0,(0,0))))))),(0,(0,((0,(0,(0,false))),((0,(0,(0,false))),((0,0),(0,(0,0))))))),(0,(0,((0,(0,(0,false))),((0,(0,(0,false))),((0,0),(0,(0,0))))))),(0,(0,((0,(0,(0,false))),((0,(0,(0,false))),((0,0),(0,(0,0)))))))])),(0,(1,((5,(1,(0,false))),((5,(1,(0,false))),((0,0),(0,(0,0))))))))))),([],(0,((0,(0,[])),(([],([],[])),(0,(0,((0,(0,(0,false))),((0,(0,(0,false))),((0,0),(0,(0,0))))))))))),([],(0,((0,(0,[])),(([],([],[])),(0,(0,((0,(0,(0,false))),((0,(0,(0,false))),((0,0),(0,(0,0)))))))))))]))),0):=by kernel_rfl
theorem lvl33_lives_3 (n:Nat):stat_Of (n+39) ((20,((10,(20,60)),((4,(5,6)),(3,9)))),(0,((-1),[([([97],[])],(5,((0,(0,[(5,(1,(0,false)))])),(([(0,(0,((0,(0,(0,false))),((0,(0,(0,false))),((0,0),(0,(0,0))))))),(0,(0,((0,(0,(0,false))),((0,(0,(0,false))),((0,0),(0,(0,0))))))),(0,(0,((0,(0,(0,false))),((0,(0,(0,false))),((0,0),(0,(0,0))))))),(0,(0,((0,(0,(0,false))),((0,(0,(0,false))),((0,0),(0,(0,0)))))))],([(0,(0,((0,(0,(0,false))),((0,(0,(0,false))),((0,0),(0,(0,0))))))),(0,(0,((0,(0,(0,false))),((0,(0,(0,false))),((0,0),(0,(0,0))))))),(0,(0,((0,(0,(0,false))),((0,(0,(0,false))),((0,0),(0,(0,0))))))),(0,(0,((0,(0,(0,false))),((0,(0,(0,false))),((0,0),(0,(0,0))))))),(0,(0,((0,(0,(0,false))),((0,(0,(0,false))),((0,0),(0,(0,0)))))))],[(0,(0,((0,(0,(0,false))),((0,(0,(0,false))),((0,0),(0,(0,0))))))),(0,(0,((0,(0,(0,false))),((0,(0,(0,false))),((0,0),(0,(0,0))))))),(0,(0,((0,(0,(0,false))),((0,(0,(0,false))),((0,0),(0,(0,0))))))),(0,(0,((0,(0,(0,false))),((0,(0,(0,false))),((0,0),(0,(0,0))))))),(0,(0,((0,(0,(0,false))),((0,(0,(0,false))),((0,0),(0,(0,0))))))),(0,(0,((0,(0,(0,false))),((0,(0,(0,false))),((0,0),(0,(0,0)))))))])),(0,(1,((5,(1,(0,false))),((5,(1,(0,false))),((0,0),(0,(0,0))))))))))),([],(0,((0,(0,[])),(([],([],[])),(0,(0,((0,(0,(0,false))),((0,(0,(0,false))),((0,0),(0,(0,0))))))))))),([],(0,((0,(0,[])),(([],([],[])),(0,(0,((0,(0,(0,false))),((0,(0,(0,false))),((0,0),(0,(0,0)))))))))))])))=some ((1,(0,(2,(1,(0,((0,(0,0)),0)))))),0):=by kernel_rfl
theorem lvl33_lives_4 (n:Nat):stat_Of (n+39) ((0,((0,(0,0)),((0,(0,0)),(0,0)))),(0,(0,[])))=some ((0,(0,(0,(0,(0,((0,(0,0)),0)))))),2):=by kernel_rfl
theorem lvl33_lives_5 (n:Nat):stat_Text (n+39) (1,(0,(0,(0,((-2),((4,(5,6)),7))))))=some [108,105,118,101,32,49,44,32,100,101,97,100,32,48,44,32,101,109,112,116,121,32,48,44,32,101,118,101,110,116,115,32,48,44,32,108,111,115,116,32,45,50,44,32,115,108,111,116,115,32,52,32,53,32,54,44,32,100,117,101,32,55]:=by kernel_rfl
theorem lvl33_lives_6 (n:Nat):stat_Full (n+39) ((20,((10,(20,60)),((4,(5,6)),(3,9)))),(0,((-1),[([([97],[])],(5,((0,(0,[(5,(1,(0,false)))])),(([(0,(0,((0,(0,(0,false))),((0,(0,(0,false))),((0,0),(0,(0,0))))))),(0,(0,((0,(0,(0,false))),((0,(0,(0,false))),((0,0),(0,(0,0))))))),(0,(0,((0,(0,(0,false))),((0,(0,(0,false))),((0,0),(0,(0,0))))))),(0,(0,((0,(0,(0,false))),((0,(0,(0,false))),((0,0),(0,(0,0)))))))],([(0,(0,((0,(0,(0,false))),((0,(0,(0,false))),((0,0),(0,(0,0))))))),(0,(0,((0,(0,(0,false))),((0,(0,(0,false))),((0,0),(0,(0,0))))))),(0,(0,((0,(0,(0,false))),((0,(0,(0,false))),((0,0),(0,(0,0))))))),(0,(0,((0,(0,(0,false))),((0,(0,(0,false))),((0,0),(0,(0,0))))))),(0,(0,((0,(0,(0,false))),((0,(0,(0,false))),((0,0),(0,(0,0)))))))],[(0,(0,((0,(0,(0,false))),((0,(0,(0,false))),((0,0),(0,(0,0))))))),(0,(0,((0,(0,(0,false))),((0,(0,(0,false))),((0,0),(0,(0,0))))))),(0,(0,((0,(0,(0,false))),((0,(0,(0,false))),((0,0),(0,(0,0))))))),(0,(0,((0,(0,(0,false))),((0,(0,(0,false))),((0,0),(0,(0,0))))))),(0,(0,((0,(0,(0,false))),((0,(0,(0,false))),((0,0),(0,(0,0))))))),(0,(0,((0,(0,(0,false))),((0,(0,(0,false))),((0,0),(0,(0,0)))))))])),(0,(1,((5,(1,(0,false))),((5,(1,(0,false))),((0,0),(0,(0,0))))))))))),([],(0,((0,(0,[])),(([],([],[])),(0,(0,((0,(0,(0,false))),((0,(0,(0,false))),((0,0),(0,(0,0))))))))))),([],(0,((0,(0,[])),(([],([],[])),(0,(0,((0,(0,(0,false))),((0,(0,(0,false))),((0,0),(0,(0,0)))))))))))])))=some false:=by kernel_rfl
theorem l33_lives_true (n:Nat):l33_lives (n+40)=some true:=by
  rw[lvl33_lives_eq]
  refine ob (lvl33_lives_0 n) ?_
  refine ob (lvl33_lives_1 n) ?_
  refine tf (by kernel_rfl) ?_
  refine ob (lvl33_lives_2 n) ?_
  refine ob (lvl33_lives_3 n) ?_
  refine ob (lvl33_lives_4 n) ?_
  refine tt (by kernel_rfl) ?_
  refine tt (by kernel_rfl) ?_
  refine tt (by kernel_rfl) ?_
  refine tt (by kernel_rfl) ?_
  refine ob (lvl33_lives_5 n) ?_
  refine tt (by kernel_rfl) ?_
  refine ob (lvl33_lives_6 n) ?_
  kernel_rfl
end Go.Proofs.YtjeabebacegikaaGreatDoor
namespace Go.Proofs.YtjeabebacegikaaGreatDoor
open Go.Flat Go.Plim
set_option linter.unusedVariables false
set_option linter.unusedSimpArgs false
theorem stats_wf {t:TStats} (h:Wf tyStats t):StW t:=by
  obtain ⟨h1,h2,h3,h4,h5,⟨h6,h7,h8⟩,h9⟩:=h
  exact ⟨h1,h2,h3,h4,h5,h6,h7,h8,h9⟩
noncomputable def fullV (s:Sta):Bool:=if StaOk s then decide ((roomR s).2=7) else false
theorem stat_full (n:Nat) {s:Sta} (hw:StaW s):stat_Full (n+15) s=some (fullV s):=by
  rw[stat_Full_eq,stt_room (n+4) hw,obs,stt_check n hw,obs]
  unfold fullV
  by_cases h:StaOk s
  · rw[chk_ok h,if_pos h]
  · rw[chk_no h,if_neg h]
theorem statTells_true (n:Nat) (s:Sta) (t:TStats) (hs:Wf tyState s) (ht:Wf tyStats t):l33_StatTells (n+41) s t=some true:=by
  have hw:=sta_wf hs
  have hts:=stats_wf ht
  rw[l33_StatTells_eq]
  rcases l17_small (n+37) hw with h | ⟨h,_⟩
  · rw[h,l33_lives_true n];rfl
  rw[h,obs,show (decide ((1:Int)=0))=false from rfl,tff,stat_of (n+21) hw,obs,r33_of (n+21) hw,obs,r17_room (n+33) hw,obs,l33_lives_true n,obs,tft]
  simp only[decide_true,Bool.and_self,tft]
  rw[stat_text (n+33) hts,obs,r33_text (n+14) hts,obs,beq_self_eq_true,tft,stat_full (n+25) hw,obs,r17_check (n+31) hw,obs]
  unfold fullV
  by_cases hok:StaOk s
  · rw[chk_ok hok,if_pos hok];simp
  · rw[chk_no hok,if_neg hok];rfl
end Go.Proofs.YtjeabebacegikaaGreatDoor
