/-
  Plain proofs about the functions of this seat, part 1 of 2.
-/
import Derived.IntWalk
import Derived.Test.YtjionkknnajjgaaGreatDoorTr
import Derived.Test.YtjionkknnajjgaaGreatDoorFlatM4
namespace Go.Plim
set_option linter.unusedVariables false
abbrev Wd:=Int×Int
abbrev Ev:=Int×(Int×(Int×Bool))
abbrev Cel:=Int×(Ev×(Ev×(Wd×(Int×(Int×Int)))))
instance decWd:DecidableEq Wd:=inferInstanceAs (DecidableEq (Int×Int))
instance decEv:DecidableEq Ev:=inferInstanceAs (DecidableEq (Int×(Int×(Int×Bool))))
instance decCel:DecidableEq Cel := @instDecidableEqProd _ _ _ (@instDecidableEqProd _ _ decEv (@instDecidableEqProd _ _ decEv (@instDecidableEqProd _ _ decWd inferInstance)))
def wv (a:Wd):Int:=a.1*18446744073709551616+a.2
structure WdOk (a:Wd):Prop where
  hi:0≤a.1∧a.1≤18446744073709551615
  lo:0≤a.2∧a.2≤18446744073709551615
def mkW (v:Int):Wd:=(v / 18446744073709551616,v % 18446744073709551616)
theorem wv_mkW (v:Int):wv (mkW v)=v:=by
  simp only[mkW,wv];omega
theorem mkW_ok {v:Int} (h:0≤v) (h':v<340282366920938463463374607431768211456):WdOk (mkW v):=by
  constructor<;>simp only[mkW]<;>omega
def addW (a b:Wd):Wd×Int:=if wv a+wv b<340282366920938463463374607431768211456 then (mkW (wv a+wv b),0) else ((0,0),1)
def e0:Ev:=(0,(0,(0,false)))
structure EvOk (e:Ev):Prop where
  t0:0≤e.1
  t1:e.1<35184372088832
  v0:0≤e.2.1
  v1:e.2.1≤18446744073709551615
  c0:0≤e.2.2.1
  c1:e.2.2.1≤e.1
  st:e.2.2.2=true→e.2.1=0∧e.2.2.1=0
theorem evOk_iff (e:Ev):EvOk e↔(0≤e.1∧e.1<35184372088832∧0≤e.2.1∧e.2.1≤18446744073709551615∧0≤e.2.2.1∧e.2.2.1≤e.1∧(e.2.2.2=true→e.2.1=0∧e.2.2.1=0)) :=
  ⟨fun ⟨a,b,c,d,f,g,h⟩=>⟨a,b,c,d,f,g,h⟩,fun ⟨a,b,c,d,f,g,h⟩=>⟨a,b,c,d,f,g,h⟩⟩
instance (e:Ev):Decidable (EvOk e):=decidable_of_iff _ (evOk_iff e).symm
structure DlOk (d:Int×(Int×(Int×Int))) (s:Int):Prop where
  i:0≤d.1∧d.1≤18446744073709551615
  r:0≤d.2.1
  g:0≤d.2.2.1
  rg:d.2.1+d.2.2.1≤1
  s:0≤d.2.2.2∧d.2.2.2≤s
def z0:Cel:=(0,(e0,(e0,((0,0),(0,(0,0))))))
structure CellN (c:Cel):Prop where
  n1:1≤c.1
  f:EvOk c.2.1
  l:EvOk c.2.2.1
  one:c.1=1→c.2.1=c.2.2.1
  more:1<c.1→c.2.1.1<c.2.2.1.1
  n2:c.1-1≤c.2.2.1.1-c.2.1.1
  w:WdOk c.2.2.2.1
  inc:wv c.2.2.2.1≤18446744073709551615*(c.1-1)
  r:0≤c.2.2.2.2.1
  g:0≤c.2.2.2.2.2.1
  rg:c.2.2.2.2.1+c.2.2.2.2.2.1≤c.1-1
  s0:0≤c.2.2.2.2.2.2
  s1:c.2.2.2.2.2.2≤c.2.2.1.1-c.2.1.1
def CellOk (c:Cel):Prop:=c=z0∨CellN c
theorem CellN.ne {c:Cel} (h:CellN c):c≠z0:=by
  intro e;have:=h.n1;rw[e] at this;simp[z0] at this
theorem CellN.ok {c:Cel} (h:CellN c):CellOk c := .inr h
theorem CellOk.n {c:Cel} (h:CellOk c) (hz:c≠z0):CellN c:=h.resolve_left hz
theorem CellOk.count {c:Cel} (h:CellOk c):(c.1=0↔c=z0)∧0≤c.1:=by
  rcases h with rfl | h
  · exact ⟨⟨fun _=>rfl,fun _=>rfl⟩,by simp[z0]⟩
  · have:=h.n1;exact ⟨⟨fun e=>by omega,fun e=>absurd e h.ne⟩,by omega⟩
theorem CellN.ft {c:Cel} (h:CellN c):c.2.1.1≤c.2.2.1.1:=by have:=h.n1;have:=h.n2;omega
theorem CellN.small {c:Cel} (h:CellN c):c.1≤35184372088832:=by
  have:=h.n2;have:=h.f.t0;have:=h.l.t1;omega
structure Foll (l:List Ev):Prop where
  ok:∀e∈l,EvOk e
  inc:l.Pairwise fun a b=>a.1<b.1
theorem Foll.nil:Foll []:=⟨by simp,.nil⟩
theorem Foll.sub {l m:List Ev} (h:Foll l) (s:m.Sublist l):Foll m:=⟨fun e he=>h.ok e (s.subset he),h.inc.sublist s⟩
structure Has (l:List Ev) (c:Cel):Prop where
  n:CellN c
  cnt:c.1=l.length
  first:l.head? = some c.2.1
  last:l.getLast? = some c.2.2.1
end Go.Plim

namespace Go.Proofs.YtjionkknnajjgaaGreatDoor
open Go.Flat Go.Plim
set_option linter.unusedVariables false
set_option linter.unusedSimpArgs false
theorem shr_nat (x:Int) (k:Nat) (hk:k≤64):shrI .u64 x (k:Int)=x / 2^k:=by
  unfold shrI
  rw[show min (k:Int).toNat IntKind.u64.bits=k from by show min (k:Int).toNat 64=k;omega]
  exact Int.fdiv_eq_ediv_of_nonneg _ (Int.le_of_lt (Int.pow_pos (by decide)))
theorem and_mask (x:Int) (k:Nat) (hk:k≤63) (h:0≤x) (h':x≤18446744073709551615):andI .u64 x ((2^k-1:Nat):Int)=x % ((2^k:Nat):Int):=by
  obtain ⟨a,rfl⟩:=Int.eq_ofNat_of_zero_le h
  have hp:2^k≤2^63:=Nat.pow_le_pow_right (by decide) hk
  have h63:(2:Nat)^63=9223372036854775808:=by decide
  unfold andI
  have e:(BitVec.ofInt IntKind.u64.bits (a:Int) &&& BitVec.ofInt IntKind.u64.bits ((2^k-1:Nat):Int)).toNat=a % 2^k:=by
    show (BitVec.ofInt 64 (a:Int) &&& BitVec.ofInt 64 ((2^k-1:Nat):Int)).toNat=_
    rw[BitVec.toNat_and,BitVec.ofInt_natCast,BitVec.ofInt_natCast,BitVec.toNat_ofNat,BitVec.toNat_ofNat,Nat.mod_eq_of_lt (a:=a) (by omega),Nat.mod_eq_of_lt (a:=2^k-1) (by omega),Nat.and_two_pow_sub_one_eq_mod]
  rw[e]
  have:a % 2^k<2^k:=Nat.mod_lt _ (Nat.pow_pos (by decide))
  rw[wu64 (by omega) (by omega)]
  simp
theorem or_add (a x:Int) (k:Nat) (hk:k≤56) (ha:0≤a) (ha':a<((2^k:Nat):Int)) (hx:0≤x) (hx':x≤255) :
    orI .u64 a (shlI .u64 (IntKind.wrap .u64 x) (k:Int))=a+x*((2^k:Nat):Int):=by
  obtain ⟨a,rfl⟩:=Int.eq_ofNat_of_zero_le ha
  obtain ⟨c,rfl⟩:=Int.eq_ofNat_of_zero_le hx
  have hp:2^k≤2^56:=Nat.pow_le_pow_right (by decide) hk
  have h56:(2:Nat)^56=72057594037927936:=by decide
  have hc:c*2^k≤255*2^k:=Nat.mul_le_mul_right _ (by omega)
  have e1:shlI .u64 (IntKind.wrap .u64 (c:Int)) (k:Int)=((c*2^k:Nat):Int):=by
    rw[wu64 (by omega) (by omega)]
    show IntKind.wrap .u64 ((c:Int)*2^(min (k:Int).toNat 64))=_
    rw[show min (k:Int).toNat 64=k by omega]
    have:(c:Int)*2^k=((c*2^k:Nat):Int):=by simp
    rw[this,wu64 (by omega) (by omega)]
  rw[e1]
  unfold orI
  have e2:(BitVec.ofInt IntKind.u64.bits (a:Int) ||| BitVec.ofInt IntKind.u64.bits ((c*2^k:Nat):Int)).toNat=c*2^k+a:=by
    show (BitVec.ofInt 64 (a:Int) ||| BitVec.ofInt 64 ((c*2^k:Nat):Int)).toNat=_
    rw[BitVec.toNat_or,BitVec.ofInt_natCast,BitVec.ofInt_natCast,BitVec.toNat_ofNat,BitVec.toNat_ofNat,Nat.mod_eq_of_lt (by omega),Nat.mod_eq_of_lt (by omega)]
    have:=Nat.two_pow_add_eq_or_of_lt (i:=k) (b:=a) (by omega) c
    rw[Nat.mul_comm c (2^k),this,Nat.or_comm]
  rw[e2,wu64 (by omega) (by omega)]
  simp[Int.add_comm]
theorem or_zero (a b:Int) (ha:0≤a∧a≤18446744073709551615) (hb:0≤b∧b≤18446744073709551615):orI .u64 a b=0↔a=0∧b=0:=by
  obtain ⟨a,rfl⟩:=Int.eq_ofNat_of_zero_le ha.1
  obtain ⟨b,rfl⟩:=Int.eq_ofNat_of_zero_le hb.1
  unfold orI
  have e2:(BitVec.ofInt IntKind.u64.bits (a:Int) ||| BitVec.ofInt IntKind.u64.bits (b:Int)).toNat=a ||| b:=by
    show (BitVec.ofInt 64 (a:Int) ||| BitVec.ofInt 64 (b:Int)).toNat=_
    rw[BitVec.toNat_or,BitVec.ofInt_natCast,BitVec.ofInt_natCast,BitVec.toNat_ofNat,BitVec.toNat_ofNat,Nat.mod_eq_of_lt (by omega),Nat.mod_eq_of_lt (by omega)]
  rw[e2]
  have:a ||| b<2^64:=Nat.or_lt_two_pow (by omega) (by omega)
  rw[wu64 (by omega) (by omega)]
  have h3:a ||| b=0↔a=0∧b=0:=Nat.or_eq_zero_iff
  omega
abbrev B16:=(Int×(Int×(Int×(Int×(Int×(Int×(Int×(Int×(Int×(Int×(Int×(Int×(Int×(Int×(Int×Int)))))))))))))))
def Byt (x:Int):Prop:=0≤x∧x≤255
theorem bytes8 (v:Int) (h:0≤v∧v≤18446744073709551615):∃x0 x1 x2 x3 x4 x5 x6 x7:Int,(Byt x0∧Byt x1∧Byt x2∧Byt x3∧Byt x4∧Byt x5∧Byt x6∧Byt x7)∧v=x0+x1*256+x2*65536+x3*16777216+x4*4294967296+x5*1099511627776+x6*281474976710656+x7*72057594037927936 ∧
    v % 256=x0∧v / 256 % 256=x1∧v / 65536 % 256=x2∧v / 16777216 % 256=x3∧v / 4294967296 % 256=x4∧v / 1099511627776 % 256=x5∧v / 281474976710656 % 256=x6∧v / 72057594037927936 % 256=x7:=by
  refine ⟨v % 256,v / 256 % 256,v / 65536 % 256,v / 16777216 % 256,v / 4294967296 % 256,v / 1099511627776 % 256,v / 281474976710656 % 256,v / 72057594037927936 % 256,?_,?_,rfl,rfl,rfl,rfl,rfl,rfl,rfl,rfl⟩
  · simp only[Byt];omega
  · have e2:v / 65536=v / 256 / 256:=by omega
    have e3:v / 16777216=v / 65536 / 256:=by omega
    have e4:v / 4294967296=v / 16777216 / 256:=by omega
    have e5:v / 1099511627776=v / 4294967296 / 256:=by omega
    have e6:v / 281474976710656=v / 1099511627776 / 256:=by omega
    have e7:v / 72057594037927936=v / 281474976710656 / 256:=by omega
    have e8:v / 72057594037927936 / 256=0:=by omega
    omega
theorem r01_bytes (n:Nat) {a:Wd} (ha:WdOk a):∃x0 x1 x2 x3 x4 x5 x6 x7 x8 x9 x10 x11 x12 x13 x14 x15:Int,r01_Bytes (n+1) a=some (x0,x1,x2,x3,x4,x5,x6,x7,x8,x9,x10,x11,x12,x13,x14,x15)∧(Byt x0∧Byt x1∧Byt x2∧Byt x3∧Byt x4∧Byt x5∧Byt x6∧Byt x7∧Byt x8∧Byt x9∧Byt x10∧Byt x11∧Byt x12∧Byt x13∧Byt x14∧Byt x15)∧a.2=x0+x1*256+x2*65536+x3*16777216+x4*4294967296+x5*1099511627776+x6*281474976710656+x7*72057594037927936∧a.1=x8+x9*256+x10*65536+x11*16777216+x12*4294967296+x13*1099511627776+x14*281474976710656+x15*72057594037927936:=by
  obtain ⟨x0,x1,x2,x3,x4,x5,x6,x7,⟨b0,b1,b2,b3,b4,b5,b6,b7⟩,hv,e0,e1,e2,e3,e4,e5,e6,e7⟩:=bytes8 a.2 ha.lo
  obtain ⟨x8,x9,x10,x11,x12,x13,x14,x15,⟨b8,b9,b10,b11,b12,b13,b14,b15⟩,hv',e8,e9,e10,e11,e12,e13,e14,e15⟩:=bytes8 a.1 ha.hi
  refine ⟨x0,x1,x2,x3,x4,x5,x6,x7,x8,x9,x10,x11,x12,x13,x14,x15,?_,⟨b0,b1,b2,b3,b4,b5,b6,b7,b8,b9,b10,b11,b12,b13,b14,b15⟩,hv,hv'⟩
  have an:∀z:Int,0≤z→z≤18446744073709551615→andI .u64 z (255:Int)=z % 256:=fun z h h'=>and_mask z 8 (by decide) h h'
  have s0:∀z:Int,shrI .u64 z (0:Int)=z / 1:=fun z=>shr_nat z 0 (by decide)
  have s1:∀z:Int,shrI .u64 z (8:Int)=z / 256:=fun z=>shr_nat z 8 (by decide)
  have s2:∀z:Int,shrI .u64 z (16:Int)=z / 65536:=fun z=>shr_nat z 16 (by decide)
  have s3:∀z:Int,shrI .u64 z (24:Int)=z / 16777216:=fun z=>shr_nat z 24 (by decide)
  have s4:∀z:Int,shrI .u64 z (32:Int)=z / 4294967296:=fun z=>shr_nat z 32 (by decide)
  have s5:∀z:Int,shrI .u64 z (40:Int)=z / 1099511627776:=fun z=>shr_nat z 40 (by decide)
  have s6:∀z:Int,shrI .u64 z (48:Int)=z / 281474976710656:=fun z=>shr_nat z 48 (by decide)
  have s7:∀z:Int,shrI .u64 z (56:Int)=z / 72057594037927936:=fun z=>shr_nat z 56 (by decide)
  have h1:=ha.lo
  have h2:=ha.hi
  rw[r01_Bytes_eq]
  simp only[s0,s1,s2,s3,s4,s5,s6,s7,Int.ediv_one]
  rw[an (a.2) (by omega) (by omega),e0,w64 (x:=x0) (by have:=b0.1;omega) (by have:=b0.2;omega)]
  rw[an (a.2 / 256) (by omega) (by omega),e1,w64 (x:=x1) (by have:=b1.1;omega) (by have:=b1.2;omega)]
  rw[an (a.2 / 65536) (by omega) (by omega),e2,w64 (x:=x2) (by have:=b2.1;omega) (by have:=b2.2;omega)]
  rw[an (a.2 / 16777216) (by omega) (by omega),e3,w64 (x:=x3) (by have:=b3.1;omega) (by have:=b3.2;omega)]
  rw[an (a.2 / 4294967296) (by omega) (by omega),e4,w64 (x:=x4) (by have:=b4.1;omega) (by have:=b4.2;omega)]
  rw[an (a.2 / 1099511627776) (by omega) (by omega),e5,w64 (x:=x5) (by have:=b5.1;omega) (by have:=b5.2;omega)]
  rw[an (a.2 / 281474976710656) (by omega) (by omega),e6,w64 (x:=x6) (by have:=b6.1;omega) (by have:=b6.2;omega)]
  rw[an (a.2 / 72057594037927936) (by omega) (by omega),e7,w64 (x:=x7) (by have:=b7.1;omega) (by have:=b7.2;omega)]
  rw[an (a.1) (by omega) (by omega),e8,w64 (x:=x8) (by have:=b8.1;omega) (by have:=b8.2;omega)]
  rw[an (a.1 / 256) (by omega) (by omega),e9,w64 (x:=x9) (by have:=b9.1;omega) (by have:=b9.2;omega)]
  rw[an (a.1 / 65536) (by omega) (by omega),e10,w64 (x:=x10) (by have:=b10.1;omega) (by have:=b10.2;omega)]
  rw[an (a.1 / 16777216) (by omega) (by omega),e11,w64 (x:=x11) (by have:=b11.1;omega) (by have:=b11.2;omega)]
  rw[an (a.1 / 4294967296) (by omega) (by omega),e12,w64 (x:=x12) (by have:=b12.1;omega) (by have:=b12.2;omega)]
  rw[an (a.1 / 1099511627776) (by omega) (by omega),e13,w64 (x:=x13) (by have:=b13.1;omega) (by have:=b13.2;omega)]
  rw[an (a.1 / 281474976710656) (by omega) (by omega),e14,w64 (x:=x14) (by have:=b14.1;omega) (by have:=b14.2;omega)]
  rw[an (a.1 / 72057594037927936) (by omega) (by omega),e15,w64 (x:=x15) (by have:=b15.1;omega) (by have:=b15.2;omega)]
theorem r01_of (n:Nat) {x0 x1 x2 x3 x4 x5 x6 x7 x8 x9 x10 x11 x12 x13 x14 x15:Int} (b0:Byt x0) (b1:Byt x1) (b2:Byt x2) (b3:Byt x3) (b4:Byt x4) (b5:Byt x5) (b6:Byt x6) (b7:Byt x7) (b8:Byt x8) (b9:Byt x9) (b10:Byt x10) (b11:Byt x11) (b12:Byt x12) (b13:Byt x13) (b14:Byt x14) (b15:Byt x15):r01_Of (n+1) (x0,x1,x2,x3,x4,x5,x6,x7,x8,x9,x10,x11,x12,x13,x14,x15)=some (x8+x9*256+x10*65536+x11*16777216+x12*4294967296+x13*1099511627776+x14*281474976710656+x15*72057594037927936,x0+x1*256+x2*65536+x3*16777216+x4*4294967296+x5*1099511627776+x6*281474976710656+x7*72057594037927936):=by
  rw[r01_Of_eq]
  simp only[Byt] at *
  have q0:orI .u64 ((0:Int)) (shlI .u64 (IntKind.wrap .u64 x0) (0:Int))=(0:Int)+x0*1:=or_add _ _ 0 (by decide) (by omega) (by show _<(1:Int);omega) b0.1 b0.2
  have q1:orI .u64 ((0:Int)+x0*1) (shlI .u64 (IntKind.wrap .u64 x1) (8:Int))=(0:Int)+x0*1+x1*256:=or_add _ _ 8 (by decide) (by omega) (by show _<(256:Int);omega) b1.1 b1.2
  have q2:orI .u64 ((0:Int)+x0*1+x1*256) (shlI .u64 (IntKind.wrap .u64 x2) (16:Int))=(0:Int)+x0*1+x1*256+x2*65536:=or_add _ _ 16 (by decide) (by omega) (by show _<(65536:Int);omega) b2.1 b2.2
  have q3:orI .u64 ((0:Int)+x0*1+x1*256+x2*65536) (shlI .u64 (IntKind.wrap .u64 x3) (24:Int))=(0:Int)+x0*1+x1*256+x2*65536+x3*16777216:=or_add _ _ 24 (by decide) (by omega) (by show _<(16777216:Int);omega) b3.1 b3.2
  have q4:orI .u64 ((0:Int)+x0*1+x1*256+x2*65536+x3*16777216) (shlI .u64 (IntKind.wrap .u64 x4) (32:Int))=(0:Int)+x0*1+x1*256+x2*65536+x3*16777216+x4*4294967296:=or_add _ _ 32 (by decide) (by omega) (by show _<(4294967296:Int);omega) b4.1 b4.2
  have q5:orI .u64 ((0:Int)+x0*1+x1*256+x2*65536+x3*16777216+x4*4294967296) (shlI .u64 (IntKind.wrap .u64 x5) (40:Int))=(0:Int)+x0*1+x1*256+x2*65536+x3*16777216+x4*4294967296+x5*1099511627776:=or_add _ _ 40 (by decide) (by omega) (by show _<(1099511627776:Int);omega) b5.1 b5.2
  have q6:orI .u64 ((0:Int)+x0*1+x1*256+x2*65536+x3*16777216+x4*4294967296+x5*1099511627776) (shlI .u64 (IntKind.wrap .u64 x6) (48:Int))=(0:Int)+x0*1+x1*256+x2*65536+x3*16777216+x4*4294967296+x5*1099511627776+x6*281474976710656:=or_add _ _ 48 (by decide) (by omega) (by show _<(281474976710656:Int);omega) b6.1 b6.2
  have q7:orI .u64 ((0:Int)+x0*1+x1*256+x2*65536+x3*16777216+x4*4294967296+x5*1099511627776+x6*281474976710656) (shlI .u64 (IntKind.wrap .u64 x7) (56:Int))=(0:Int)+x0*1+x1*256+x2*65536+x3*16777216+x4*4294967296+x5*1099511627776+x6*281474976710656+x7*72057594037927936:=or_add _ _ 56 (by decide) (by omega) (by show _<(72057594037927936:Int);omega) b7.1 b7.2
  have q8:orI .u64 ((0:Int)) (shlI .u64 (IntKind.wrap .u64 x8) (0:Int))=(0:Int)+x8*1:=or_add _ _ 0 (by decide) (by omega) (by show _<(1:Int);omega) b8.1 b8.2
  have q9:orI .u64 ((0:Int)+x8*1) (shlI .u64 (IntKind.wrap .u64 x9) (8:Int))=(0:Int)+x8*1+x9*256:=or_add _ _ 8 (by decide) (by omega) (by show _<(256:Int);omega) b9.1 b9.2
  have q10:orI .u64 ((0:Int)+x8*1+x9*256) (shlI .u64 (IntKind.wrap .u64 x10) (16:Int))=(0:Int)+x8*1+x9*256+x10*65536:=or_add _ _ 16 (by decide) (by omega) (by show _<(65536:Int);omega) b10.1 b10.2
  have q11:orI .u64 ((0:Int)+x8*1+x9*256+x10*65536) (shlI .u64 (IntKind.wrap .u64 x11) (24:Int))=(0:Int)+x8*1+x9*256+x10*65536+x11*16777216:=or_add _ _ 24 (by decide) (by omega) (by show _<(16777216:Int);omega) b11.1 b11.2
  have q12:orI .u64 ((0:Int)+x8*1+x9*256+x10*65536+x11*16777216) (shlI .u64 (IntKind.wrap .u64 x12) (32:Int))=(0:Int)+x8*1+x9*256+x10*65536+x11*16777216+x12*4294967296:=or_add _ _ 32 (by decide) (by omega) (by show _<(4294967296:Int);omega) b12.1 b12.2
  have q13:orI .u64 ((0:Int)+x8*1+x9*256+x10*65536+x11*16777216+x12*4294967296) (shlI .u64 (IntKind.wrap .u64 x13) (40:Int))=(0:Int)+x8*1+x9*256+x10*65536+x11*16777216+x12*4294967296+x13*1099511627776:=or_add _ _ 40 (by decide) (by omega) (by show _<(1099511627776:Int);omega) b13.1 b13.2
  have q14:orI .u64 ((0:Int)+x8*1+x9*256+x10*65536+x11*16777216+x12*4294967296+x13*1099511627776) (shlI .u64 (IntKind.wrap .u64 x14) (48:Int))=(0:Int)+x8*1+x9*256+x10*65536+x11*16777216+x12*4294967296+x13*1099511627776+x14*281474976710656:=or_add _ _ 48 (by decide) (by omega) (by show _<(281474976710656:Int);omega) b14.1 b14.2
  have q15:orI .u64 ((0:Int)+x8*1+x9*256+x10*65536+x11*16777216+x12*4294967296+x13*1099511627776+x14*281474976710656) (shlI .u64 (IntKind.wrap .u64 x15) (56:Int))=(0:Int)+x8*1+x9*256+x10*65536+x11*16777216+x12*4294967296+x13*1099511627776+x14*281474976710656+x15*72057594037927936:=or_add _ _ 56 (by decide) (by omega) (by show _<(72057594037927936:Int);omega) b15.1 b15.2
  rw[q8,q9,q10,q11,q12,q13,q14,q15,q0,q1,q2,q3,q4,q5,q6,q7]
  congr 2
  · omega
  · omega
theorem r01_less (n:Nat) {a b:Wd} (ha:WdOk a) (hb:WdOk b):r01_Less (n+2) a b=some (decide (wv a<wv b)):=by
  obtain ⟨x0,x1,x2,x3,x4,x5,x6,x7,x8,x9,x10,x11,x12,x13,x14,x15,hx,⟨b0,b1,b2,b3,b4,b5,b6,b7,b8,b9,b10,b11,b12,b13,b14,b15⟩,va,va'⟩:=r01_bytes n ha
  obtain ⟨y0,y1,y2,y3,y4,y5,y6,y7,y8,y9,y10,y11,y12,y13,y14,y15,hy,⟨d0,d1,d2,d3,d4,d5,d6,d7,d8,d9,d10,d11,d12,d13,d14,d15⟩,vb,vb'⟩:=r01_bytes n hb
  rw[r01_Less_eq,hx,hy]
  simp only[obs,tfn,tfd]
  simp only[Byt] at *
  have ea:wv a=a.1*18446744073709551616+a.2:=rfl
  have eb:wv b=b.1*18446744073709551616+b.2:=rfl
  rw[va,va'] at ea
  rw[vb,vb'] at eb
  clear va va' vb vb' hx hy ha hb
  generalize wv a=va at *
  generalize wv b=vb at *
  by_cases c15:x15=y15
  case neg=>rw[if_neg c15];congr 1;exact decide_eq_decide.2 (by omega)
  rw[if_pos c15]
  subst c15
  by_cases c14:x14=y14
  case neg=>rw[if_neg c14];congr 1;exact decide_eq_decide.2 (by omega)
  rw[if_pos c14]
  subst c14
  by_cases c13:x13=y13
  case neg=>rw[if_neg c13];congr 1;exact decide_eq_decide.2 (by omega)
  rw[if_pos c13]
  subst c13
  by_cases c12:x12=y12
  case neg=>rw[if_neg c12];congr 1;exact decide_eq_decide.2 (by omega)
  rw[if_pos c12]
  subst c12
  by_cases c11:x11=y11
  case neg=>rw[if_neg c11];congr 1;exact decide_eq_decide.2 (by omega)
  rw[if_pos c11]
  subst c11
  by_cases c10:x10=y10
  case neg=>rw[if_neg c10];congr 1;exact decide_eq_decide.2 (by omega)
  rw[if_pos c10]
  subst c10
  by_cases c9:x9=y9
  case neg=>rw[if_neg c9];congr 1;exact decide_eq_decide.2 (by omega)
  rw[if_pos c9]
  subst c9
  by_cases c8:x8=y8
  case neg=>rw[if_neg c8];congr 1;exact decide_eq_decide.2 (by omega)
  rw[if_pos c8]
  subst c8
  by_cases c7:x7=y7
  case neg=>rw[if_neg c7];congr 1;exact decide_eq_decide.2 (by omega)
  rw[if_pos c7]
  subst c7
  by_cases c6:x6=y6
  case neg=>rw[if_neg c6];congr 1;exact decide_eq_decide.2 (by omega)
  rw[if_pos c6]
  subst c6
  by_cases c5:x5=y5
  case neg=>rw[if_neg c5];congr 1;exact decide_eq_decide.2 (by omega)
  rw[if_pos c5]
  subst c5
  by_cases c4:x4=y4
  case neg=>rw[if_neg c4];congr 1;exact decide_eq_decide.2 (by omega)
  rw[if_pos c4]
  subst c4
  by_cases c3:x3=y3
  case neg=>rw[if_neg c3];congr 1;exact decide_eq_decide.2 (by omega)
  rw[if_pos c3]
  subst c3
  by_cases c2:x2=y2
  case neg=>rw[if_neg c2];congr 1;exact decide_eq_decide.2 (by omega)
  rw[if_pos c2]
  subst c2
  by_cases c1:x1=y1
  case neg=>rw[if_neg c1];congr 1;exact decide_eq_decide.2 (by omega)
  rw[if_pos c1]
  subst c1
  by_cases c0:x0=y0
  case neg=>rw[if_neg c0];congr 1;exact decide_eq_decide.2 (by omega)
  rw[if_pos c0]
  subst c0
  rw[decide_eq_false (by omega)]
def cN (x y m:Int):Int:=IntKind.wrap .i64 (Int.tdiv (IntKind.wrap .i64 ((IntKind.wrap .i64 (x+y))+m)) (256:Int))
def dN (x y m:Int):Int:=Int.tmod (IntKind.wrap .i64 ((IntKind.wrap .i64 (x+y))+m)) (256:Int)
theorem digit (x y m:Int) (hx:Byt x) (hy:Byt y) (hm:0≤m∧m≤1):(0≤cN x y m∧cN x y m≤1)∧Byt (dN x y m)∧x+y+m=256*cN x y m+dN x y m:=by
  obtain ⟨h1,h2⟩:=hx
  obtain ⟨h3,h4⟩:=hy
  unfold cN dN Byt
  rw[w64 (x:=x+y) (by omega) (by omega),w64 (x:=x+y+m) (by omega) (by omega),tdiv_nn (by omega),tmod_nn (by omega),w64 (by omega) (by omega)]
  omega
theorem r01_add (n:Nat) {a b:Wd} (ha:WdOk a) (hb:WdOk b):r01_Add (n+2) a b=some (addW a b):=by
  obtain ⟨x0,x1,x2,x3,x4,x5,x6,x7,x8,x9,x10,x11,x12,x13,x14,x15,hx,⟨b0,b1,b2,b3,b4,b5,b6,b7,b8,b9,b10,b11,b12,b13,b14,b15⟩,va,va'⟩:=r01_bytes n ha
  obtain ⟨y0,y1,y2,y3,y4,y5,y6,y7,y8,y9,y10,y11,y12,y13,y14,y15,hy,⟨d0,d1,d2,d3,d4,d5,d6,d7,d8,d9,d10,d11,d12,d13,d14,d15⟩,vb,vb'⟩:=r01_bytes n hb
  rw[r01_Add_eq,hx,hy]
  simp only[obs]
  show tif (decide ((0:Int)<(cN x15 y15 (cN x14 y14 (cN x13 y13 (cN x12 y12 (cN x11 y11 (cN x10 y10 (cN x9 y9 (cN x8 y8 (cN x7 y7 (cN x6 y6 (cN x5 y5 (cN x4 y4 (cN x3 y3 (cN x2 y2 (cN x1 y1 (cN x0 y0 (0:Int))))))))))))))))))) (some (((0:Int),(0:Int)),(1:Int))) (obind (r01_Of (n+1) (dN x0 y0 (0:Int),dN x1 y1 (cN x0 y0 (0:Int)),dN x2 y2 (cN x1 y1 (cN x0 y0 (0:Int))),dN x3 y3 (cN x2 y2 (cN x1 y1 (cN x0 y0 (0:Int)))),dN x4 y4 (cN x3 y3 (cN x2 y2 (cN x1 y1 (cN x0 y0 (0:Int))))),dN x5 y5 (cN x4 y4 (cN x3 y3 (cN x2 y2 (cN x1 y1 (cN x0 y0 (0:Int)))))),dN x6 y6 (cN x5 y5 (cN x4 y4 (cN x3 y3 (cN x2 y2 (cN x1 y1 (cN x0 y0 (0:Int))))))),dN x7 y7 (cN x6 y6 (cN x5 y5 (cN x4 y4 (cN x3 y3 (cN x2 y2 (cN x1 y1 (cN x0 y0 (0:Int)))))))),dN x8 y8 (cN x7 y7 (cN x6 y6 (cN x5 y5 (cN x4 y4 (cN x3 y3 (cN x2 y2 (cN x1 y1 (cN x0 y0 (0:Int))))))))),dN x9 y9 (cN x8 y8 (cN x7 y7 (cN x6 y6 (cN x5 y5 (cN x4 y4 (cN x3 y3 (cN x2 y2 (cN x1 y1 (cN x0 y0 (0:Int)))))))))),dN x10 y10 (cN x9 y9 (cN x8 y8 (cN x7 y7 (cN x6 y6 (cN x5 y5 (cN x4 y4 (cN x3 y3 (cN x2 y2 (cN x1 y1 (cN x0 y0 (0:Int))))))))))),dN x11 y11 (cN x10 y10 (cN x9 y9 (cN x8 y8 (cN x7 y7 (cN x6 y6 (cN x5 y5 (cN x4 y4 (cN x3 y3 (cN x2 y2 (cN x1 y1 (cN x0 y0 (0:Int)))))))))))),dN x12 y12 (cN x11 y11 (cN x10 y10 (cN x9 y9 (cN x8 y8 (cN x7 y7 (cN x6 y6 (cN x5 y5 (cN x4 y4 (cN x3 y3 (cN x2 y2 (cN x1 y1 (cN x0 y0 (0:Int))))))))))))),dN x13 y13 (cN x12 y12 (cN x11 y11 (cN x10 y10 (cN x9 y9 (cN x8 y8 (cN x7 y7 (cN x6 y6 (cN x5 y5 (cN x4 y4 (cN x3 y3 (cN x2 y2 (cN x1 y1 (cN x0 y0 (0:Int)))))))))))))),dN x14 y14 (cN x13 y13 (cN x12 y12 (cN x11 y11 (cN x10 y10 (cN x9 y9 (cN x8 y8 (cN x7 y7 (cN x6 y6 (cN x5 y5 (cN x4 y4 (cN x3 y3 (cN x2 y2 (cN x1 y1 (cN x0 y0 (0:Int))))))))))))))),dN x15 y15 (cN x14 y14 (cN x13 y13 (cN x12 y12 (cN x11 y11 (cN x10 y10 (cN x9 y9 (cN x8 y8 (cN x7 y7 (cN x6 y6 (cN x5 y5 (cN x4 y4 (cN x3 y3 (cN x2 y2 (cN x1 y1 (cN x0 y0 (0:Int)))))))))))))))))) fun r2=>some (r2,(0:Int)))=_
  obtain ⟨k0,g0,z0⟩:=digit x0 y0 (0:Int) b0 d0 (by omega)
  generalize cN x0 y0 (0:Int)=c0 at *
  generalize dN x0 y0 (0:Int)=t0 at *
  obtain ⟨k1,g1,z1⟩:=digit x1 y1 c0 b1 d1 (by omega)
  generalize cN x1 y1 c0=c1 at *
  generalize dN x1 y1 c0=t1 at *
  obtain ⟨k2,g2,z2⟩:=digit x2 y2 c1 b2 d2 (by omega)
  generalize cN x2 y2 c1=c2 at *
  generalize dN x2 y2 c1=t2 at *
  obtain ⟨k3,g3,z3⟩:=digit x3 y3 c2 b3 d3 (by omega)
  generalize cN x3 y3 c2=c3 at *
  generalize dN x3 y3 c2=t3 at *
  obtain ⟨k4,g4,z4⟩:=digit x4 y4 c3 b4 d4 (by omega)
  generalize cN x4 y4 c3=c4 at *
  generalize dN x4 y4 c3=t4 at *
  obtain ⟨k5,g5,z5⟩:=digit x5 y5 c4 b5 d5 (by omega)
  generalize cN x5 y5 c4=c5 at *
  generalize dN x5 y5 c4=t5 at *
  obtain ⟨k6,g6,z6⟩:=digit x6 y6 c5 b6 d6 (by omega)
  generalize cN x6 y6 c5=c6 at *
  generalize dN x6 y6 c5=t6 at *
  obtain ⟨k7,g7,z7⟩:=digit x7 y7 c6 b7 d7 (by omega)
  generalize cN x7 y7 c6=c7 at *
  generalize dN x7 y7 c6=t7 at *
  obtain ⟨k8,g8,z8⟩:=digit x8 y8 c7 b8 d8 (by omega)
  generalize cN x8 y8 c7=c8 at *
  generalize dN x8 y8 c7=t8 at *
  obtain ⟨k9,g9,z9⟩:=digit x9 y9 c8 b9 d9 (by omega)
  generalize cN x9 y9 c8=c9 at *
  generalize dN x9 y9 c8=t9 at *
  obtain ⟨k10,g10,z10⟩:=digit x10 y10 c9 b10 d10 (by omega)
  generalize cN x10 y10 c9=c10 at *
  generalize dN x10 y10 c9=t10 at *
  obtain ⟨k11,g11,z11⟩:=digit x11 y11 c10 b11 d11 (by omega)
  generalize cN x11 y11 c10=c11 at *
  generalize dN x11 y11 c10=t11 at *
  obtain ⟨k12,g12,z12⟩:=digit x12 y12 c11 b12 d12 (by omega)
  generalize cN x12 y12 c11=c12 at *
  generalize dN x12 y12 c11=t12 at *
  obtain ⟨k13,g13,z13⟩:=digit x13 y13 c12 b13 d13 (by omega)
  generalize cN x13 y13 c12=c13 at *
  generalize dN x13 y13 c12=t13 at *
  obtain ⟨k14,g14,z14⟩:=digit x14 y14 c13 b14 d14 (by omega)
  generalize cN x14 y14 c13=c14 at *
  generalize dN x14 y14 c13=t14 at *
  obtain ⟨k15,g15,z15⟩:=digit x15 y15 c14 b15 d15 (by omega)
  generalize cN x15 y15 c14=c15 at *
  generalize dN x15 y15 c14=t15 at *
  rw[r01_of n g0 g1 g2 g3 g4 g5 g6 g7 g8 g9 g10 g11 g12 g13 g14 g15]
  simp only[tfd,obs]
  have e:wv a+wv b=c15*340282366920938463463374607431768211456+((t8+t9*256+t10*65536+t11*16777216+t12*4294967296+t13*1099511627776+t14*281474976710656+t15*72057594037927936)*18446744073709551616+(t0+t1*256+t2*65536+t3*16777216+t4*4294967296+t5*1099511627776+t6*281474976710656+t7*72057594037927936)):=by
    simp only[wv];omega
  have r1:0≤t8+t9*256+t10*65536+t11*16777216+t12*4294967296+t13*1099511627776+t14*281474976710656+t15*72057594037927936∧t8+t9*256+t10*65536+t11*16777216+t12*4294967296+t13*1099511627776+t14*281474976710656+t15*72057594037927936≤18446744073709551615:=by simp only[Byt] at *;omega
  have r2:0≤t0+t1*256+t2*65536+t3*16777216+t4*4294967296+t5*1099511627776+t6*281474976710656+t7*72057594037927936∧t0+t1*256+t2*65536+t3*16777216+t4*4294967296+t5*1099511627776+t6*281474976710656+t7*72057594037927936≤18446744073709551615:=by simp only[Byt] at *;omega
  generalize t8+t9*256+t10*65536+t11*16777216+t12*4294967296+t13*1099511627776+t14*281474976710656+t15*72057594037927936=hi at *
  generalize t0+t1*256+t2*65536+t3*16777216+t4*4294967296+t5*1099511627776+t6*281474976710656+t7*72057594037927936=lo at *
  clear va va' vb vb'
  unfold addW
  by_cases hc:(0:Int)<c15
  · rw[if_pos hc,if_neg (by omega)]
  · rw[if_neg hc,if_pos (by omega)]
    simp only[mkW]
    refine congrArg (fun z=>some (z,(0:Int))) (Prod.ext ?_ ?_)
    · simp only;omega
    · simp only;omega
theorem at_mid {α:Type} {l pre rest:List α} {x:α} {i:Int} (h:l=pre++x::rest) (hi:i=pre.length):at? l i=some x:=by
  subst h hi;simp[at?]
theorem idx {α:Type} {l pre rest:List α} {x:α} {i len:Int} (h:l=pre++x::rest) (hi:i=pre.length) (hn:len=l.length):i<len:=by
  have:=congrArg List.length h
  simp at this
  omega
theorem idxe {α:Type} {l pre:List α} {i len:Int} (h:l=pre++[]) (hi:i=pre.length) (hn:len=l.length):¬(i<len):=by
  have:=congrArg List.length h
  simp at this
  omega
theorem idxw {α:Type} {l pre rest:List α} {x:α} {i:Int} (h:l=pre++x::rest) (hi:i=pre.length) (hL:l.length≤1000000000000):IntKind.wrap .i64 (i+1)=i+1:=by
  have:=congrArg List.length h
  simp at this
  rw[w64 (by omega) (by omega)]
theorem idxs {α:Type} {pre:List α} {x:α} {i:Int} (hi:i=pre.length):i+1=((pre++[x]).length:Int):=by simp;omega
theorem idxl {α:Type} {l pre rest:List α} {x:α} (h:l=pre++x::rest):l=(pre++[x])++rest:=by rw[h];simp
def I64 (x:Int):Prop := -9223372036854775808≤x∧x≤9223372036854775807
structure EvW (e:Ev):Prop where
  t:I64 e.1
  v:0≤e.2.1∧e.2.1≤18446744073709551615
  c:I64 e.2.2.1
structure CelW (c:Cel):Prop where
  n:I64 c.1
  f:EvW c.2.1
  l:EvW c.2.2.1
  w:WdOk c.2.2.2.1
  r:I64 c.2.2.2.2.1
  g:I64 c.2.2.2.2.2.1
  s:I64 c.2.2.2.2.2.2
theorem EvW.of {e:Ev} (h:EvOk e):EvW e:=by
  obtain ⟨a,b,c,d,f,g,_⟩:=h
  exact ⟨by unfold I64;omega,⟨c,d⟩,by unfold I64;omega⟩
theorem CelW.ofN {c:Cel} (h:CellN c):CelW c:=by
  have:=h.small;have:=h.n1;have:=h.f.t0;have:=h.f.t1;have:=h.l.t0;have:=h.l.t1;have:=h.r;have:=h.g;have:=h.rg;have:=h.s0;have:=h.s1
  exact ⟨by unfold I64;omega,.of h.f,.of h.l,h.w,by unfold I64;omega,by unfold I64;omega,by unfold I64;omega⟩
theorem celW_z0:CelW z0:=⟨by simp[I64,z0],⟨by simp[I64,z0,e0],by simp[z0,e0],by simp[I64,z0,e0]⟩,⟨by simp[I64,z0,e0],by simp[z0,e0],by simp[I64,z0,e0]⟩,⟨by simp[z0],by simp[z0]⟩,by simp[I64,z0],by simp[I64,z0],by simp[I64,z0]⟩
theorem CelW.of {c:Cel} (h:CellOk c):CelW c:=by
  rcases h with rfl | h
  · exact celW_z0
  · exact .ofN h
abbrev Lab:=List UInt8×List UInt8
def sgn (c:Int):Prop:=(97≤c∧c≤122)∨(65≤c∧c≤90)∨(48≤c∧c≤57)∨c=95
instance (c:Int):Decidable (sgn c):=by unfold sgn;infer_instance
def digitP (c:Int):Prop:=48≤c∧c≤57
instance (c:Int):Decidable (digitP c):=by unfold digitP;infer_instance
def NameOk:List UInt8→Prop
  | []=>False
  | b::r=>(b::r).length≤64∧¬digitP (b.toNat:Int)∧∀x∈b::r,sgn (x.toNat:Int)
instance:(s:List UInt8)→Decidable (NameOk s)
  | [] => .isFalse id
  | b::r=>by unfold NameOk;infer_instance
theorem low_all:∀c:Fin 256,(97≤orI .u8 (c.val:Int) 32∧orI .u8 (c.val:Int) 32≤122)↔((97≤(c.val:Int)∧(c.val:Int)≤122)∨(65≤(c.val:Int)∧(c.val:Int)≤90)):=by decide +kernel
theorem low (c:Int) (h:0≤c∧c≤255):(97≤orI .u8 c 32∧orI .u8 c 32≤122)↔((97≤c∧c≤122)∨(65≤c∧c≤90)):=by
  obtain ⟨k,rfl⟩:=Int.eq_ofNat_of_zero_le h.1
  exact low_all ⟨k,by omega⟩
theorem label_digit_val (n:Nat) (c:Int):label_digit (n+1) c=some (decide (digitP c)):=by
  rw[label_digit_eq]
  unfold digitP
  by_cases h1:(48:Int)≤c<;>by_cases h2:c≤57<;>simp[h1,h2]
theorem label_sign_val (n:Nat) (c:Int) (h:0≤c∧c≤255):label_sign (n+2) c=some (decide (sgn c)):=by
  rw[label_sign_eq,label_digit_val]
  simp only[obs,tfd]
  have hl:=low c h
  by_cases h1:digitP c
  · rw[if_pos h1,decide_eq_true (show sgn c from .inr (.inr (.inl h1)))]
  rw[if_neg h1]
  by_cases h2:c=95
  · rw[if_pos h2,decide_eq_true (show sgn c from .inr (.inr (.inr h2)))]
  rw[if_neg h2]
  by_cases h3:97≤orI .u8 c 32
  · rw[if_pos h3]
    refine congrArg some (decide_eq_decide.2 ?_)
    constructor
    · intro k
      rcases hl.1 ⟨h3,k⟩ with q | q
      · exact .inl q
      · exact .inr (.inl q)
    · intro k
      rcases k with k | k | k | k
      · exact (hl.2 (.inl k)).2
      · exact (hl.2 (.inr k)).2
      · exact absurd k h1
      · exact absurd k h2
  · rw[if_neg h3,decide_eq_false]
    intro k
    rcases k with k | k | k | k
    · exact h3 (hl.2 (.inl k)).1
    · exact h3 (hl.2 (.inr k)).1
    · exact h1 k
    · exact h2 k
theorem index_byte (n:Nat) {del:Int×Unit→Option Bool} {p:Int→Bool} (l:List Int) (hL:l.length≤1000000000000) (hd:∀x∈l,del (x,())=some (p x)):∀(rest pre:List Int) (f:Nat) (i len:Int),l=pre++rest→i=pre.length→len=l.length→rest.length<f →
    (sl_IndexFunc_byte_l2 n f (l,del,len,i,())=some (.inl ())∧∀x∈rest,p x=false) ∨
    (∃k:Int,0≤k∧sl_IndexFunc_byte_l2 n f (l,del,len,i,())=some (.inr k)∧∃x∈rest,p x=true):=by
  intro rest
  induction rest with
  | nil =>
    intro pre f i len hl hi hn hf
    obtain ⟨f,rfl⟩:∃g,f=g+1:=⟨f-1,by simp at hf;omega⟩
    rw[sl_IndexFunc_byte_l2_eq]
    exact .inl ⟨by simp only[tfd,if_neg (idxe hl hi hn)],by simp⟩
  | cons x rest ih =>
    intro pre f i len hl hi hn hf
    obtain ⟨f,rfl⟩:∃g,f=g+1:=⟨f-1,by simp at hf;omega⟩
    rw[sl_IndexFunc_byte_l2_eq]
    simp only[tfd,if_pos (idx hl hi hn),at_mid hl hi,obs,hd x (by rw[hl];simp),idxw hl hi hL]
    cases hp:p x with
    | true=>exact .inr ⟨i,by omega,by simp,x,by simp,hp⟩
    | false =>
      rw[tff]
      rcases ih (pre++[x]) f (i+1) len (idxl hl) (idxs hi) hn (by simp at hf;omega) with ⟨h1,h2⟩ | ⟨k,h1,h2,y,hy,h3⟩
      · exact .inl ⟨h1,by intro z hz;rcases List.mem_cons.1 hz with rfl | hz;exact hp;exact h2 z hz⟩
      · exact .inr ⟨k,h1,h2,y,by simp[hy],h3⟩
theorem contains_byte (n:Nat) {del:Int×Unit→Option Bool} {p:Int→Bool} (l:List Int) (hL:l.length≤1000000000000) (hd:∀x∈l,del (x,())=some (p x)):sl_ContainsFunc_byte (n+2) l del=some (l.any p):=by
  rw[sl_ContainsFunc_byte_eq,sl_IndexFunc_byte_eq]
  rcases index_byte n l hL hd l [] loopFuel 0 l.length rfl rfl rfl (by unfold loopFuel;omega) with ⟨h1,h2⟩ | ⟨k,h1,h2,x,hx,h3⟩
  · rw[h1]
    have:l.any p=false:=by rw[List.any_eq_false];intro x hx;simp[h2 x hx]
    rw[this];rfl
  · rw[h2]
    have:l.any p=true:=List.any_eq_true.2 ⟨x,hx,h3⟩
    simp[this,h1]
theorem label_name_val (n:Nat) (s:List UInt8):label_name (n+5) s=some (decide (NameOk s)):=by
  rw[label_name_eq]
  match s with
  | []=>rfl
  | b::r =>
    have e1:((b::r)==[])=false:=rfl
    have e2:at? (b::r) (0:Int)=some b:=rfl
    rw[e1,tff,e2,obs,label_digit_val,obs]
    simp only[tfd]
    by_cases h1:(64:Int)<(b::r).length
    · rw[if_pos h1,decide_eq_false (fun k:NameOk (b::r)=>by have:=k.1;omega)]
    rw[if_neg h1]
    by_cases h2:digitP (b.toNat:Int)
    · rw[if_pos h2,decide_eq_false (fun k:NameOk (b::r)=>k.2.1 h2)]
    rw[if_neg h2,contains_byte (p:=fun c => !decide (sgn c)) (n+2) _ (by simp at h1 ⊢;omega) (fun x hx=>by
      obtain ⟨c,_,rfl⟩:=List.mem_map.1 hx
      have:=c.toNat_lt
      show label_name_1 (n+3+1) _=_
      rw[label_name_1_eq,label_sign_val (n+1) _ (by omega)];rfl)]
    simp only[obs]
    refine congrArg some ?_
    by_cases h3:∀x∈b::r,sgn (x.toNat:Int)
    · rw[decide_eq_true (show NameOk (b::r) from ⟨by omega,h2,h3⟩)]
      rw[List.any_eq_false.2]
      · rfl
      · intro x hx
        obtain ⟨c,hc,rfl⟩:=List.mem_map.1 hx
        simp[h3 c hc]
    · rw[decide_eq_false (fun k:NameOk (b::r)=>h3 k.2.2)]
      have:∃x∈b::r,¬sgn (x.toNat:Int):=Classical.byContradiction fun k=>h3 fun x hx=>Classical.byContradiction fun q=>k ⟨x,hx,q⟩
      obtain ⟨x,hx,hq⟩:=this
      rw[List.any_eq_true.2 ⟨(x.toNat:Int),List.mem_map.2 ⟨x,hx,rfl⟩,by simp[hq]⟩]
      rfl
theorem r05_name_l (n:Nat) (s:List UInt8) (hL:s.length≤1000000000000):∀(rest pre:List UInt8) (f:Nat) (i:Int),s=pre++rest→i=pre.length→rest.length<f →
    r05_name_l4 n f (s,i,())=some (if ∀x∈rest,sgn (x.toNat:Int) then .inl () else .inr false):=by
  intro rest
  induction rest with
  | nil =>
    intro pre f i hl hi hf
    obtain ⟨f,rfl⟩:∃g,f=g+1:=⟨f-1,by simp at hf;omega⟩
    rw[r05_name_l4_eq]
    simp[tfd,if_neg (idxe hl hi rfl)]
  | cons x rest ih =>
    intro pre f i hl hi hf
    obtain ⟨f,rfl⟩:∃g,f=g+1:=⟨f-1,by simp at hf;omega⟩
    rw[r05_name_l4_eq]
    simp only[tfd,tfn,if_pos (idx hl hi rfl),at_mid hl hi,obs,idxw hl hi hL]
    rw[ih (pre++[x]) f (i+1) (idxl hl) (idxs hi) (by simp at hf;omega)]
    have hsplit:(∀y∈x::rest,sgn (y.toNat:Int))↔sgn (x.toNat:Int)∧∀y∈rest,sgn (y.toNat:Int):=by simp
    generalize hR:(some (if ∀y∈rest,sgn (y.toNat:Int) then (Sum.inl ():Unit ⊕ Bool) else .inr false))=R
    have good:sgn (x.toNat:Int)→R=some (if ∀y∈x::rest,sgn (y.toNat:Int) then .inl () else .inr false):=by
      intro hx
      rw[←hR]
      by_cases h:∀y∈rest,sgn (y.toNat:Int)
      · rw[if_pos h,if_pos (hsplit.2 ⟨hx,h⟩)]
      · rw[if_neg h,if_neg (fun k=>h (hsplit.1 k).2)]
    have bad:¬sgn (x.toNat:Int)→some (.inr false)=some (if ∀y∈x::rest,sgn (y.toNat:Int) then (Sum.inl ():Unit ⊕ Bool) else .inr false):=by
      intro hx
      rw[if_neg (fun k=>hx (hsplit.1 k).1)]
    have hc:=x.toNat_lt
    generalize (x.toNat:Int)=c at *
    clear hR ih
    unfold sgn at good bad
    by_cases a1:(97:Int)≤c<;>by_cases a2:c≤122<;>by_cases a3:(65:Int)≤c<;>by_cases a4:c≤90<;>by_cases a5:(48:Int)≤c<;>by_cases a6:c≤57<;>by_cases a7:c=95 <;>
      first
        | omega
        | (simp only[a1,a2,a3,a4,a5,a6,a7,if_true,if_false];first | exact good (by omega) | exact bad (by omega))
        | (simp[a1,a2,a3,a4,a5,a6,a7];done)
theorem r05_name_val (n:Nat) (s:List UInt8):r05_name (n+1) s=some (decide (NameOk s)):=by
  rw[r05_name_eq]
  match s with
  | []=>rfl
  | b::r =>
    have e2:at? (b::r) (0:Int)=some b:=rfl
    rw[e2,obs,obs]
    simp only[tfd]
    rw[if_neg (show ¬(((b::r).length:Int)<1) by simp;omega)]
    by_cases h1:(64:Int)<(b::r).length
    · rw[if_pos h1,decide_eq_false (fun k:NameOk (b::r)=>by have:=k.1;omega)]
    rw[if_neg h1,r05_name_l n (b::r) (by omega) (b::r) [] loopFuel 0 rfl rfl (by unfold loopFuel;omega)]
    simp only[obs]
    have fin:¬digitP (b.toNat:Int)→(selim (fun _:Unit=>some true) (fun z4=>some z4) (if ∀x∈b::r,sgn (x.toNat:Int) then .inl () else .inr false))=some (decide (NameOk (b::r))):=by
      intro h2
      by_cases h3:∀x∈b::r,sgn (x.toNat:Int)
      · rw[if_pos h3,decide_eq_true (show NameOk (b::r) from ⟨by omega,h2,h3⟩)];rfl
      · rw[if_neg h3,decide_eq_false (fun k:NameOk (b::r)=>h3 k.2.2)];rfl
    by_cases h4:(48:Int)≤(b.toNat:Int)
    · rw[if_pos h4]
      by_cases h5:(b.toNat:Int)≤57
      · rw[if_pos h5,decide_eq_false (fun k:NameOk (b::r)=>k.2.1 ⟨h4,h5⟩)]
      · rw[if_neg h5];exact fin (fun k=>h5 k.2)
    · rw[if_neg h4];exact fin (fun k=>h4 k.1)
def chkL:Option (List UInt8)→List Lab→Prop
  | _,[]=>True
  | p,x::r=>NameOk x.1∧x.2.length≤128∧(∀q,p=some q→Op.bytesLess q x.1=true)∧chkL (some x.1) r
def sumL (l:List Lab):Int:=(l.map fun x=>((x.1.length:Int)+x.2.length)).sum
theorem sumL_nn (l:List Lab):0≤sumL l:=by
  induction l with
  | nil=>simp[sumL]
  | cons x l ih=>simp only[sumL,List.map_cons,List.sum_cons] at *;omega
theorem sumL_cons (x:Lab) (l:List Lab):sumL (x::l)=x.1.length+x.2.length+sumL l:=by simp[sumL]
theorem NameOk.len {s:List UInt8} (h:NameOk s):s.length≤64:=by
  match s with
  | []=>simp
  | b::r=>exact h.1
structure LabOk (l:List Lab):Prop where
  n0:1≤l.length
  n1:l.length≤16
  c:chkL none l
  t:sumL l≤256
noncomputable instance (l:List Lab):Decidable (LabOk l):=Classical.propDecidable _
theorem prev_at {l pre rest:List Lab} {x:Lab} {i:Int} (hl:l=pre++x::rest) (hi:i=pre.length) (hL:l.length≤1000000) (h:0<i):∃q,pre.getLast? = some q∧at? l (IntKind.wrap .i64 (i-1))=some q:=by
  rcases List.eq_nil_or_concat pre with rfl | ⟨q,y,rfl⟩
  · simp at hi;omega
  rw[List.concat_eq_append] at *
  have hlen:=congrArg List.length hl
  simp at hlen hi
  refine ⟨y,by simp,?_⟩
  rw[w64 (by omega) (by omega)]
  exact at_mid (pre:=q) (rest:=x::rest) (by rw[hl];simp) (by omega)
theorem label_check_l (n:Nat) (l:List Lab) (hL:l.length≤16):∀(rest pre:List Lab) (f:Nat) (left i len:Int),l=pre++rest→i=pre.length→len=l.length→rest.length<f→0≤left→left≤256 →
    (chkL (pre.getLast?.map (·.1)) rest∧sumL rest≤left→label_Check_l5 (n+5) f (l,left,l,len,i,())=some (.inl ())) ∧
    (¬(chkL (pre.getLast?.map (·.1)) rest∧sumL rest≤left)→label_Check_l5 (n+5) f (l,left,l,len,i,())=some (.inr 8)):=by
  intro rest
  induction rest with
  | nil =>
    intro pre f left i len hl hi hn hf h0 h1
    obtain ⟨f,rfl⟩:∃g,f=g+1:=⟨f-1,by simp at hf;omega⟩
    rw[label_Check_l5_eq]
    refine ⟨fun _=>by simp only[tfd,if_neg (idxe hl hi hn)],fun k=>absurd ⟨trivial,by simpa [sumL] using h0⟩ k⟩
  | cons x rest ih =>
    intro pre f left i len hl hi hn hf h0 h1
    obtain ⟨f,rfl⟩:∃g,f=g+1:=⟨f-1,by simp at hf;omega⟩
    rw[label_Check_l5_eq]
    have hsn:=sumL_nn rest
    simp only[tfd,tfn,if_pos (idx hl hi hn),at_mid hl hi,obs,idxw hl hi (by omega),label_name_val n x.1]
    rw[sumL_cons]
    by_cases c1:NameOk x.1
    case neg=>rw[if_neg c1];exact ⟨fun k=>absurd k.1.1 c1,fun _=>rfl⟩
    rw[if_pos c1]
    have hn1:=c1.len
    by_cases c2:(128:Int)<x.2.length
    · rw[if_pos c2];exact ⟨fun k=>by have:=k.1.2.1;omega,fun _=>rfl⟩
    rw[if_neg c2,w64 (x:=(x.1.length:Int)+x.2.length) (by omega) (by omega),w64 (x:=left-((x.1.length:Int)+x.2.length)) (by omega) (by omega)]
    by_cases c3:left-((x.1.length:Int)+x.2.length)<0
    · rw[if_pos c3];exact ⟨fun k=>by have:=k.2;omega,fun _=>rfl⟩
    rw[if_neg c3]
    have ih':=ih (pre++[x]) f (left-((x.1.length:Int)+x.2.length)) (i+1) len (idxl hl) (idxs hi) hn (by simp at hf;omega) (by omega) (by omega)
    have el:(pre++[x]).getLast?.map (·.1)=some x.1:=by simp
    rw[el] at ih'
    have step:(∀q,pre.getLast?.map (·.1)=some q→Op.bytesLess q x.1=true) →
        ((chkL (pre.getLast?.map (·.1)) (x::rest)∧(x.1.length:Int)+x.2.length+sumL rest≤left)↔(chkL (some x.1) rest∧sumL rest≤left-((x.1.length:Int)+x.2.length))):=by
      intro hq
      constructor
      · rintro ⟨k1,k2⟩;exact ⟨k1.2.2.2,by omega⟩
      · rintro ⟨k1,k2⟩;exact ⟨⟨c1,by omega,hq,k1⟩,by omega⟩
    by_cases c4:0<i
    · obtain ⟨q,hq,hat⟩:=prev_at hl hi (by omega) c4
      rw[if_pos c4,hat,obs]
      by_cases c5:Op.bytesLess q.1 x.1=true
      · rw[c5,tft,step (fun z hz=>by rw[hq] at hz;simp at hz;rw[←hz];exact c5)]
        exact ih'
      · have c5':Op.bytesLess q.1 x.1=false:=by simpa using c5
        rw[c5',tff]
        exact ⟨fun k=>absurd (k.1.2.2.1 q.1 (by rw[hq];rfl)) c5,fun _=>rfl⟩
    · have hp:pre=[]:=List.length_eq_zero_iff.1 (by omega)
      rw[if_neg c4,step (fun z hz=>by rw[hp] at hz;cases hz)]
      exact ih'
theorem label_check (n:Nat) (l:List Lab):label_Check (n+6) l=some (if LabOk l then 0 else 8):=by
  rw[label_Check_eq]
  simp only[tfd]
  by_cases h1:(l.length:Int)=0
  · rw[if_pos h1,if_neg (fun k:LabOk l=>by have:=k.n0;omega)]
  by_cases h2:(16:Int)<l.length
  · rw[if_neg h1,if_pos h2,if_neg (fun k:LabOk l=>by have:=k.n1;omega)]
  rw[if_neg h1,if_neg h2]
  have hl:=label_check_l n l (by omega) l [] loopFuel 256 0 l.length rfl rfl rfl (by unfold loopFuel;omega) (by decide) (by decide)
  by_cases h3:chkL none l∧sumL l≤256
  · rw[hl.1 h3,if_pos (⟨by omega,by omega,h3.1,h3.2⟩:LabOk l)];rfl
  · rw[hl.2 h3,if_neg (fun k:LabOk l=>h3 ⟨k.c,k.t⟩)];rfl
theorem r05_check_l (n:Nat) (l:List Lab) (hL:l.length≤16):∀(rest pre:List Lab) (f:Nat) (all i len:Int),l=pre++rest→i=pre.length→len=l.length→rest.length<f→0≤all→all≤192*pre.length →
    (chkL (pre.getLast?.map (·.1)) rest→r05_Check_l5 (n+1) f (l,all,l,len,i,())=some (.inl (all+sumL rest,()))) ∧
    (¬chkL (pre.getLast?.map (·.1)) rest→r05_Check_l5 (n+1) f (l,all,l,len,i,())=some (.inr 8)):=by
  intro rest
  induction rest with
  | nil =>
    intro pre f left i len hl hi hn hf h0 h1
    obtain ⟨f,rfl⟩:∃g,f=g+1:=⟨f-1,by simp at hf;omega⟩
    rw[r05_Check_l5_eq]
    refine ⟨fun _=>by simp only[tfd,if_neg (idxe hl hi hn),sumL,List.map_nil,List.sum_nil,Int.add_zero],fun k=>absurd trivial k⟩
  | cons x rest ih =>
    intro pre f left i len hl hi hn hf h0 h1
    obtain ⟨f,rfl⟩:∃g,f=g+1:=⟨f-1,by simp at hf;omega⟩
    rw[r05_Check_l5_eq]
    have hsn:=sumL_nn rest
    have hpl:pre.length+1≤l.length:=by have:=congrArg List.length hl;simp at this;omega
    simp only[tfd,tfn,if_pos (idx hl hi hn),at_mid hl hi,obs,idxw hl hi (by omega),r05_name_val n x.1]
    rw[sumL_cons]
    by_cases c1:NameOk x.1
    case neg=>rw[if_neg c1];exact ⟨fun k=>absurd k.1 c1,fun _=>rfl⟩
    rw[if_pos c1]
    have hn1:=c1.len
    by_cases c2:(128:Int)<x.2.length
    · rw[if_pos c2];exact ⟨fun k=>by have:=k.2.1;omega,fun _=>rfl⟩
    rw[if_neg c2,w64 (x:=(x.1.length:Int)+x.2.length) (by omega) (by omega),w64 (x:=left+((x.1.length:Int)+x.2.length)) (by omega) (by omega)]
    have ih':=ih (pre++[x]) f (left+((x.1.length:Int)+x.2.length)) (i+1) len (idxl hl) (idxs hi) hn (by simp at hf;omega) (by omega) (by simp;omega)
    have el:(pre++[x]).getLast?.map (·.1)=some x.1:=by simp
    rw[el] at ih'
    have ea:left+((x.1.length:Int)+x.2.length+sumL rest)=left+((x.1.length:Int)+x.2.length)+sumL rest:=by omega
    rw[ea]
    have step:(∀q,pre.getLast?.map (·.1)=some q→Op.bytesLess q x.1=true)→(chkL (pre.getLast?.map (·.1)) (x::rest)↔chkL (some x.1) rest):=by
      intro hq
      constructor
      · intro k;exact k.2.2.2
      · intro k;exact ⟨c1,by omega,hq,k⟩
    by_cases c4:0<i
    · obtain ⟨q,hq,hat⟩:=prev_at hl hi (by omega) c4
      rw[if_pos c4,hat,obs]
      by_cases c5:Op.bytesLess q.1 x.1=true
      · rw[c5,tft,step (fun z hz=>by rw[hq] at hz;simp at hz;rw[←hz];exact c5)]
        exact ih'
      · have c5':Op.bytesLess q.1 x.1=false:=by simpa using c5
        rw[c5',tff]
        exact ⟨fun k=>absurd (k.2.2.1 q.1 (by rw[hq];rfl)) c5,fun _=>rfl⟩
    · have hp:pre=[]:=List.length_eq_zero_iff.1 (by omega)
      rw[if_neg c4,step (fun z hz=>by rw[hp] at hz;cases hz)]
      exact ih'
theorem r05_check (n:Nat) (l:List Lab):r05_Check (n+2) l=some (if LabOk l then 0 else 8):=by
  rw[r05_Check_eq]
  simp only[tfd]
  by_cases h1:(l.length:Int)<1
  · rw[if_pos h1,if_neg (fun k:LabOk l=>by have:=k.n0;omega)]
  by_cases h2:(16:Int)<l.length
  · rw[if_neg h1,if_pos h2,if_neg (fun k:LabOk l=>by have:=k.n1;omega)]
  rw[if_neg h1,if_neg h2]
  have hl:=r05_check_l n l (by omega) l [] loopFuel 0 0 l.length rfl rfl rfl (by unfold loopFuel;omega) (by decide) (by simp)
  by_cases h3:chkL none l
  · rw[hl.1 h3]
    simp only[obs,selim_inl,Int.zero_add]
    by_cases h4:(256:Int)<sumL l
    · rw[if_pos h4,if_neg (fun k:LabOk l=>by have:=k.t;omega)]
    · rw[if_neg h4,if_pos (⟨by omega,by omega,h3,by omega⟩:LabOk l)]
  · rw[hl.2 h3,if_neg (fun k:LabOk l=>h3 k.c)];rfl
theorem labEq (a b:Lab):((a.1==b.1)&&(a.2==b.2))=decide (a=b):=by
  rw[Bool.eq_iff_iff];simp[Prod.ext_iff]
def qb (c:UInt8):List UInt8:=if c.toNat=10 then [92,110] else if c.toNat=34 then [92,c] else if c.toNat=92 then [92,c] else [c]
def qt (s:List UInt8):List UInt8:=s.flatMap qb
theorem qb_len (c:UInt8):(qb c).length≤2:=by
  unfold qb
  split
  · simp
  split
  · simp
  split<;>simp
theorem qt_cons (c:UInt8) (s:List UInt8):qt (c::s)=qb c++qt s:=rfl
theorem qt_len:∀s:List UInt8,(qt s).length≤2*s.length
  | []=>by simp[qt]
  | c::s=>by
    have:=qb_len c
    have:=qt_len s
    rw[qt_cons,List.length_append,List.length_cons];omega
theorem wb (n:Nat) (b:List UInt8) {c:Int} {u:UInt8} (hc:c=(u.toNat:Int)) (hl:b.length≤100000000000000):strings_Builder_WriteByte (n+1) b c=some (false,b++[u]):=by
  have h1:=u.toNat_lt
  rw[strings_Builder_WriteByte_eq,gWriteByte,tif_ite,if_pos (by simp;omega),hc]
  simp
theorem wst (n:Nat) (b s:List UInt8) (hl:b.length+s.length≤100000000000000):strings_Builder_WriteString (n+1) b s=some ((s.length:Int),false,b++s):=by
  rw[strings_Builder_WriteString_eq,gWriteString,tfd,if_pos (by omega)]
theorem at_midI {s pre rest:List UInt8} {c:UInt8} {i:Int} (h:s=pre++c::rest) (hi:i=pre.length):at? (List.map (fun y=>(((UInt8.toNat y):Nat):Int)) s) i=some ((c.toNat:Nat):Int) :=
  at_mid (pre:=pre.map fun y=>(((UInt8.toNat y):Nat):Int)) (rest:=rest.map fun y=>(((UInt8.toNat y):Nat):Int)) (by rw[h];simp) (by simpa using hi)
theorem quote_l (n:Nat) (s:List UInt8) (hs:s.length≤1000000000000):∀(rest pre:List UInt8) (f:Nat) (b:List UInt8) (i:Int),s=pre++rest→i=pre.length→b.length+2*rest.length≤10000000000000 →
    label_quote_l2 (n+1) (f+rest.length+1) (b,List.map (fun y=>(((UInt8.toNat y):Nat):Int)) s,(s.length:Int),i,())=some (.inl (b++qt rest,())):=by
  intro rest
  induction rest with
  | nil =>
    intro pre f b i h hi hb
    rw[label_quote_l2_eq]
    simp only[tfd,if_neg (idxe h hi rfl)]
    simp[qt]
  | cons c rest ih =>
    intro pre f b i h hi hb
    rw[show f+(c::rest).length+1=(f+rest.length+1)+1 by simp;omega,label_quote_l2_eq]
    simp only[tfd,if_pos (idx h hi rfl)]
    rw[at_midI h hi,obs,idxw h hi (by omega)]
    simp only[List.length_cons] at hb
    have hc:=c.toNat_lt
    have e110:(110:Int)=(((110:UInt8).toNat:Nat):Int):=rfl
    have e92:(92:Int)=(((92:UInt8).toNat:Nat):Int):=rfl
    have hn:=fun (b':List UInt8) (hb':b'.length≤b.length+2)=>ih (pre++[c]) f b' (i+1) (idxl h) (idxs hi) (by omega)
    rw[qt_cons]
    unfold qb
    by_cases h10:c.toNat=10
    · rw[if_pos (show ((c.toNat:Nat):Int)=10 by omega),if_pos h10,wb n b e92 (by omega),obs,wb n _ e110 (by simp;omega),obs,hn _ (by simp)]
      simp
    rw[if_neg (show ¬((c.toNat:Nat):Int)=10 by omega),if_neg h10]
    by_cases h34:c.toNat=34
    · have q:((c.toNat:Nat):Int)=34:=by omega
      rw[if_pos q,if_pos q,if_pos h34,wb n b e92 (by omega),obs,wb n _ rfl (by simp;omega),obs,hn _ (by simp)]
      simp
    rw[if_neg (show ¬((c.toNat:Nat):Int)=34 by omega),if_neg h34]
    by_cases h92:c.toNat=92
    · rw[if_pos (show ((c.toNat:Nat):Int)=92 by omega),if_pos h92,wb n b e92 (by omega),obs,wb n _ rfl (by simp;omega),obs,hn _ (by simp)]
      simp
    · rw[if_neg (show ¬((c.toNat:Nat):Int)=92 by omega),if_neg h92,wb n b rfl (by omega),obs,hn _ (by simp)]
      simp
theorem lfu {k:Nat} (h:k≤1000000000000):loopFuel=(loopFuel-k-1)+k+1:=by unfold loopFuel;omega
theorem quote_val (n:Nat) (b s:List UInt8) (hs:s.length≤1000000000000) (hb:b.length≤1000000000000):label_quote (n+2) b s=some (b++[34]++qt s++[34]):=by
  rw[label_quote_eq]
  have e34:(34:Int)=(((34:UInt8).toNat:Nat):Int):=rfl
  rw[wb n b e34 (by omega),obs]
  have:=quote_l n s hs s [] (loopFuel-s.length-1) (b++[34]) 0 rfl rfl (by simp;omega)
  rw[←lfu hs] at this
  have e:(((List.length (List.map (fun y2=>(((UInt8.toNat y2):Nat):Int)) s)):Nat):Int)=(s.length:Int):=by simp
  rw[e]
  show obind (label_quote_l2 (n+1) loopFuel (b++[34],_)) _=_
  rw[this,obs,selim_inl]
  have:=qt_len s
  rw[wb n _ e34 (by simp;omega),obs]
def labT (x:Lab):List UInt8:=x.1++[61,34]++qt x.2++[34]
def bodyL:UInt8→List Lab→List UInt8
  | _,[]=>[]
  | c,x::r=>c::(labT x++bodyL 44 r)
def textL (l:List Lab):List UInt8:=bodyL 123 l++[125]
theorem chkL_len:∀(l:List Lab) (p:Option (List UInt8)),chkL p l→∀x∈l,x.1.length≤64∧x.2.length≤128
  | [],_,_,x,hx=>by cases hx
  | y::l,p,h,x,hx=>by
    rcases List.mem_cons.1 hx with rfl | hx
    · exact ⟨h.1.len,h.2.1⟩
    · exact chkL_len l _ h.2.2.2 x hx
theorem labT_len {x:Lab} (h:x.1.length≤64∧x.2.length≤128):(labT x).length≤400:=by
  have:=qt_len x.2
  unfold labT
  simp;omega
theorem bodyL_len:∀(l:List Lab) (c:UInt8),(∀x∈l,x.1.length≤64∧x.2.length≤128)→(bodyL c l).length≤401*l.length
  | [],_,_=>by simp[bodyL]
  | x::l,c,h=>by
    have h1:=labT_len (h x List.mem_cons_self)
    have h2:=bodyL_len l 44 fun y hy=>h y (List.mem_cons_of_mem _ hy)
    unfold bodyL
    simp;omega
theorem textL_len {l:List Lab} (h:LabOk l):(textL l).length≤10000:=by
  have h1:=bodyL_len l 123 (chkL_len l none h.c)
  have h2:=h.n1
  unfold textL
  simp;omega
theorem text_l (n:Nat) (l:List Lab) (hl:l.length≤16) (hx:∀x∈l,x.1.length≤64∧x.2.length≤128):∀(rest pre:List Lab) (f:Nat) (b:List UInt8) (a:UInt8) (i:Int),l=pre++rest→i=pre.length→b.length≤401*pre.length →
    label_Text_l7 (n+2) (f+rest.length+1) (b,((a.toNat:Nat):Int),l,(l.length:Int),i,())=some (.inl (b++bodyL a rest,())):=by
  intro rest
  induction rest with
  | nil =>
    intro pre f b a i h hi hb
    rw[label_Text_l7_eq]
    simp only[tfd,if_neg (idxe h hi rfl)]
    simp[bodyL]
  | cons x rest ih =>
    intro pre f b a i h hi hb
    have hlen:=congrArg List.length h
    simp at hlen
    have hx1:=hx x (by rw[h];simp)
    rw[show f+(x::rest).length+1=(f+rest.length+1)+1 by simp;omega,label_Text_l7_eq]
    simp only[tfd,if_pos (idx h hi rfl)]
    have e61:(61:Int)=(((61:UInt8).toNat:Nat):Int):=rfl
    have e44:(44:Int)=(((44:UInt8).toNat:Nat):Int):=rfl
    rw[at_mid h hi,obs,idxw h hi (by omega),wb (n+1) b rfl (by omega),obs,wst (n+1) _ _ (by simp;omega),obs,wb (n+1) _ e61 (by simp;omega),obs,
      quote_val n _ _ (by omega) (by simp;omega),obs,e44]
    have hq:=qt_len x.2
    rw[ih (pre++[x]) f _ 44 (i+1) (idxl h) (idxs hi) (by simp;omega)]
    simp[bodyL,labT]
theorem label_text (n:Nat) (l:List Lab):label_Text (n+7) l=some (if LabOk l then (textL l,0) else ([],8)):=by
  rw[label_Text_eq,label_check n l,obs]
  by_cases h:LabOk l
  · rw[if_pos h,if_pos h]
    simp only[decide_true,Bool.not_true,tif_ite,Bool.false_eq_true,if_false]
    have h1:=text_l (n+4) l h.n1 (chkL_len l none h.c) l [] (loopFuel-l.length-1) [] 123 0 rfl rfl (by simp)
    rw[←lfu (by have:=h.n1;omega)] at h1
    show obind (label_Text_l7 (n+6) loopFuel ([],(((123:UInt8).toNat:Nat):Int),l,(l.length:Int),0,())) _=_
    rw[h1,obs,selim_inl]
    have h2:=textL_len h
    have e125:(125:Int)=(((125:UInt8).toNat:Nat):Int):=rfl
    unfold textL at h2 ⊢
    simp at h2
    rw[wb (n+5) _ e125 (by simp;omega),obs,strings_Builder_String_eq,obs]
    simp
  · rw[if_neg h,if_neg h]
    rfl
theorem one_at {s pre rest:List UInt8} {c:UInt8} {i:Int} (h:s=pre++c::rest) (hi:i=pre.length):List.drop (Int.toNat i) (List.take (Int.toNat (i+1)) s)=[c]:=by
  subst hi
  have e:Int.toNat ((pre.length:Int)+1)=pre.length+1:=by omega
  rw[e,Int.toNat_natCast,h,List.take_append,List.take_of_length_le (by omega),show pre.length+1-pre.length=1 by omega]
  simp
theorem r05_quote_l (n:Nat) (s:List UInt8) (hs:s.length≤1000000):∀(rest pre:List UInt8) (f:Nat) (out:List UInt8) (i:Int),s=pre++rest→i=pre.length→out.length≤2*pre.length →
    r05_quote_l3 n (f+rest.length+1) (s,out,i,())=some (.inl (out++qt rest,())):=by
  intro rest
  induction rest with
  | nil =>
    intro pre f out i h hi ho
    rw[r05_quote_l3_eq]
    simp only[tfd,if_neg (idxe h hi rfl)]
    simp[qt]
  | cons c rest ih =>
    intro pre f out i h hi ho
    have hlen:=congrArg List.length h
    simp at hlen
    rw[show f+(c::rest).length+1=(f+rest.length+1)+1 by simp;omega,r05_quote_l3_eq]
    simp only[tfd,if_pos (idx h hi rfl)]
    rw[at_mid h hi,obs,idxw h hi (by omega),one_at h hi]
    have hn:=fun (o:List UInt8) (ho':o.length≤out.length+2)=>ih (pre++[c]) f o (i+1) (idxl h) (idxs hi) (by simp;omega)
    have c1:(0:Int)≤i:=by omega
    have c2:(decide ((((Int.toNat i):Nat):Int)≤i+1)&&decide (i+1≤((s.length:Nat):Int)))=true:=by simp;omega
    rw[c2,qt_cons]
    unfold qb
    simp only[tft]
    by_cases h34:c.toNat=34
    · have q:((c.toNat:Nat):Int)=34:=by omega
      rw[if_neg (show ¬c.toNat=10 by omega),if_pos h34,if_pos q,if_pos q,if_pos c1,if_pos (by simp),if_pos (by simp;omega),hn _ (by simp)]
      simp
    rw[if_neg (show ¬((c.toNat:Nat):Int)=34 by omega),if_neg h34]
    by_cases h92:c.toNat=92
    · rw[if_neg (show ¬c.toNat=10 by omega),if_pos h92,if_pos (show ((c.toNat:Nat):Int)=92 by omega),if_pos c1,if_pos (by simp),if_pos (by simp;omega),hn _ (by simp)]
      simp
    rw[if_neg (show ¬((c.toNat:Nat):Int)=92 by omega),if_neg h92]
    by_cases h10:c.toNat=10
    · rw[if_pos h10,if_pos (show ((c.toNat:Nat):Int)=10 by omega),if_pos (by omega),hn _ (by simp)]
      simp
    · rw[if_neg h10,if_neg (show ¬((c.toNat:Nat):Int)=10 by omega),if_pos c1,if_pos (by simp;omega),hn _ (by simp)]
      simp
theorem r05_quote_val (n:Nat) (s:List UInt8) (hs:s.length≤1000000):r05_quote (n+1) s=some (qt s):=by
  rw[r05_quote_eq]
  have:=r05_quote_l n s hs s [] (loopFuel-s.length-1) [] 0 rfl rfl (by simp)
  rw[←lfu (by omega)] at this
  rw[this,obs,selim_inl]
  simp
def bodyT:List Lab→List UInt8
  | []=>[]
  | x::r=>labT x++bodyL 44 r
theorem r05_text_l (n:Nat) (l:List Lab) (hl:l.length≤16) (hx:∀x∈l,x.1.length≤64∧x.2.length≤128):∀(rest pre:List Lab) (f:Nat) (b:List UInt8) (i:Int),l=pre++rest→i=pre.length→b.length≤401*pre.length+1 →
    r05_Text_l5 (n+1) (f+rest.length+1) (b,l,(l.length:Int),i,())=some (.inl (b++(if pre=[] then bodyT rest else bodyL 44 rest),())):=by
  intro rest
  induction rest with
  | nil =>
    intro pre f b i h hi hb
    rw[r05_Text_l5_eq]
    simp only[tfd,if_neg (idxe h hi rfl)]
    split<;>simp[bodyT,bodyL]
  | cons x rest ih =>
    intro pre f b i h hi hb
    have hlen:=congrArg List.length h
    simp at hlen
    have hx1:=hx x (by rw[h];simp)
    have hq:=qt_len x.2
    rw[show f+(x::rest).length+1=(f+rest.length+1)+1 by simp;omega,r05_Text_l5_eq]
    simp only[tfd,if_pos (idx h hi rfl)]
    rw[at_mid h hi,obs,idxw h hi (by omega),r05_quote_val n _ (by omega),obs,obs]
    by_cases hp:pre=[]
    · have hi0:¬(0<i):=by rw[hi,hp];simp
      rw[if_neg hi0,if_pos hp,if_pos (by omega),if_pos (by simp;omega),if_pos (by simp;omega),if_pos (by simp;omega)]
      rw[ih (pre++[x]) f _ (i+1) (idxl h) (idxs hi) (by simp;omega),if_neg (by simp)]
      simp[bodyT,labT]
    · have hi0:0<i:=by
        have:0<pre.length:=List.length_pos_iff.2 hp
        omega
      rw[if_pos hi0,if_neg hp,if_pos (by omega),if_pos (by omega),if_pos (by simp;omega),if_pos (by simp;omega),if_pos (by simp;omega)]
      rw[ih (pre++[x]) f _ (i+1) (idxl h) (idxs hi) (by simp;omega),if_neg (by simp)]
      simp[bodyL,labT]
theorem r05_text (n:Nat) (l:List Lab):r05_Text (n+3) l=some (if LabOk l then (textL l,0) else ([],8)):=by
  rw[r05_Text_eq,r05_check n l,obs]
  by_cases h:LabOk l
  · rw[if_pos h,if_pos h]
    simp only[decide_true,Bool.not_true,tif_ite,Bool.false_eq_true,if_false]
    have h1:=r05_text_l (n+1) l h.n1 (chkL_len l none h.c) l [] (loopFuel-l.length-1) [123] 0 rfl rfl (by simp)
    rw[←lfu (by have:=h.n1;omega)] at h1
    rw[h1,obs,selim_inl]
    have h2:=textL_len h
    have e:[123]++(if ([]:List Lab)=[] then bodyT l else bodyL 44 l)=bodyL 123 l:=by
      rw[if_pos rfl]
      have:=h.n0
      cases l with
      | nil=>simp at this
      | cons x r=>simp[bodyT,bodyL]
    rw[e]
    unfold textL at h2 ⊢
    simp at h2
    simp only[decide_eq_true_eq]
    rw[if_pos (by omega)]
  · rw[if_neg h,if_neg h]
    rfl
theorem index_some (sub:List UInt8) (hs:sub≠[]):∀(s:List UInt8) (i:Nat),Lib.index s sub=(i:Int)→∃t,s.drop i=sub++t∧i+sub.length≤s.length
  | [],i,h=>by
    unfold Lib.index at h
    have:sub.isEmpty=false:=by cases sub with | nil=>exact absurd rfl hs | cons=>rfl
    rw[this] at h
    simp at h
  | b::l,i,h=>by
    unfold Lib.index at h
    split at h
    · rename_i hp
      have h0:i=0:=by omega
      subst h0
      obtain ⟨t,ht⟩:=List.isPrefixOf_iff_prefix.1 hp
      have hl:=congrArg List.length ht
      simp at hl
      exact ⟨t,ht.symm,by simp;omega⟩
    · split at h
      · omega
      · have hge:=Lib.index_ge l sub
        obtain ⟨j,hj⟩:∃j:Nat,Lib.index l sub=(j:Int):=⟨(Lib.index l sub).toNat,by
          rename_i hne
          have:Lib.index l sub ≠ -1:=by simpa using hne
          omega⟩
        have hi:i=j+1:=by omega
        obtain ⟨t,h1,h2⟩:=index_some sub hs l j hj
        subst hi
        exact ⟨t,by simpa using h1,by simp;omega⟩
theorem index_at {a sub t:List UInt8} {c:UInt8} {r:List UInt8} (hs:sub=c::r) (ha:c ∉ a):Lib.index (a++(sub++t)) sub=(a.length:Int):=by
  refine Lib.index_first (by simp) ?_ fun j hj => ?_
  · unfold Lib.occAt
    rw[List.drop_left]
    exact List.isPrefixOf_iff_prefix.2 ⟨t,rfl⟩
  · cases ho:Lib.occAt (a++(sub++t)) sub j with
    | false=>rfl
    | true =>
      have:=Lib.occAt_head hs ho
      rw[List.getElem?_append_left hj] at this
      exact absurd (List.mem_of_getElem? this) ha
theorem index_no {s sub:List UInt8} {c:UInt8} {r:List UInt8} (hs:sub=c::r) (ha:c ∉ s):Lib.index s sub = -1:=by
  refine Lib.index_none fun j hj => ?_
  cases ho:Lib.occAt s sub j with
  | false=>rfl
  | true=>exact absurd (List.mem_of_getElem? (Lib.occAt_head hs ho)) ha
def cutV (s sep:List UInt8):List UInt8×(List UInt8×Bool) :=
  if 0≤Lib.index s sep then (s.take (Lib.index s sep).toNat,s.drop ((Lib.index s sep).toNat+sep.length),true) else (s,[],false)
theorem cut_val (n:Nat) (s sep:List UInt8) (hs:s.length≤1000000) (hsep:sep≠[]) (hl:sep.length≤100):strings_Cut (n+3) s sep=some (cutV s sep):=by
  rw[strings_Cut_eq,stringslite_Cut_eq,stringslite_Index_eq,gIndex,tfd,if_pos (by omega),obs]
  unfold cutV
  by_cases h:0≤Lib.index s sep
  · obtain ⟨i,hi⟩:∃i:Nat,Lib.index s sep=(i:Int):=⟨(Lib.index s sep).toNat,by omega⟩
    obtain ⟨t,_,h2⟩:=index_some sep hsep s i hi
    rw[if_pos h,hi,w64 (by omega) (by omega)]
    have c1:(decide ((0:Int)≤(i:Int))&&decide ((i:Int)≤((s.length:Nat):Int)))=true:=by simp;omega
    rw[c1]
    have e:Int.toNat ((i:Int)+((sep.length:Nat):Int))=i+sep.length:=by omega
    rw[e]
    simp only[tfd,tft]
    rw[if_pos (by omega),if_pos (by omega),if_pos h2,obs]
    simp
  · rw[if_neg h]
    simp only[tfd]
    rw[if_neg h,obs]
theorem cutV_len (s sep:List UInt8):(cutV s sep).1.length≤s.length∧(cutV s sep).2.1.length≤s.length:=by
  unfold cutV
  split
  · simp;omega
  · simp
theorem cutV_at {a t r:List UInt8} {c:UInt8} (ha:c ∉ a):cutV (a++((c::r)++t)) (c::r)=(a,t,true):=by
  unfold cutV
  rw[index_at rfl ha,if_pos (by omega),Int.toNat_natCast,List.take_left]
  have:(a++((c::r)++t)).drop (a.length+(c::r).length)=t:=by
    rw[←List.append_assoc,←List.length_append,List.drop_left]
  rw[this]
theorem cutV_no {s r:List UInt8} {c:UInt8} (ha:c ∉ s):cutV s (c::r)=(s,[],false):=by
  unfold cutV
  rw[index_no rfl ha,if_neg (by omega)]
def cutP (c:UInt8):List UInt8→List UInt8×Bool
  | []=>([],false)
  | d::r=>if d=c then (r,true) else (d::r,false)
theorem cutp_val (n:Nat) (c:UInt8) (s:List UInt8):strings_CutPrefix (n+3) s [c]=some (cutP c s):=by
  rw[strings_CutPrefix_eq,stringslite_CutPrefix_eq,stringslite_HasPrefix_eq]
  cases s with
  | nil=>rfl
  | cons d r =>
    have c0:(((List.length [c]:Nat)):Int)≤(((d::r).length:Nat):Int):=by simp;omega
    have c1:(decide ((0:Int)≤((List.length [c]:Nat):Int))&&decide (((List.length [c]:Nat):Int)≤(((d::r).length:Nat):Int)))=true:=by
      have:(0:Int)≤(r.length:Int):=by omega
      simp
      omega
    have e1:Int.toNat ((List.length [c]:Nat):Int)=1:=rfl
    rw[c1,e1]
    simp only[tfd,tft]
    rw[if_pos c0,obs]
    by_cases h:d=c
    · subst h
      have q:cutP d (d::r)=(r,true):=by show (if d=d then (r,true) else (d::r,false))=_;rw[if_pos rfl]
      rw[q]
      simp[tif_ite]
    · have q:cutP c (d::r)=(d::r,false):=by show (if d=c then (r,true) else (d::r,false))=_;rw[if_neg h]
      rw[q]
      have:(List.drop 0 (List.take 1 (d::r))==[c])=false:=by simp[h]
      rw[this]
      rfl
theorem cutP_len (c:UInt8) (s:List UInt8):(cutP c s).1.length≤s.length:=by
  cases s with
  | nil=>simp[cutP]
  | cons d r =>
    show (if d=c then (r,true) else (d::r,false)).1.length≤_
    split<;>simp
def unq:List UInt8→Option (List UInt8×List UInt8)
  | []=>none
  | c :: r => if c.toNat = 34 then some ([], r) else if c.toNat = 10 then none else if c.toNat = 92 then
      (match r with
      | []=>none
      | d::r'=>if d.toNat=110 then (unq r').map (fun p=>(10::p.1,p.2)) else if d.toNat=34∨d.toNat=92 then (unq r').map (fun p=>(d::p.1,p.2)) else none)
    else (unq r).map (fun p=>(c::p.1,p.2))
theorem unq_34 {c:UInt8} (r:List UInt8) (h:c.toNat=34):unq (c::r)=some ([],r):=by unfold unq;rw[if_pos h]
theorem unq_10 {c:UInt8} (r:List UInt8) (h:c.toNat=10):unq (c::r)=none:=by unfold unq;rw[if_neg (by omega),if_pos h]
theorem unq_oth {c:UInt8} (r:List UInt8) (h:¬c.toNat=34) (h':¬c.toNat=10) (h'':¬c.toNat=92):unq (c::r)=(unq r).map (fun p=>(c::p.1,p.2)):=by
  conv=>lhs;unfold unq
  rw[if_neg h,if_neg h',if_neg h'']
theorem unq_92n {c:UInt8} (h:c.toNat=92):unq [c]=none:=by
  unfold unq
  rw[if_neg (by omega),if_neg (by omega),if_pos h]
theorem unq_92 {c d:UInt8} (r:List UInt8) (h:c.toNat=92):unq (c::d::r)=if d.toNat=110 then (unq r).map (fun p=>(10::p.1,p.2)) else if d.toNat=34∨d.toNat=92 then (unq r).map (fun p=>(d::p.1,p.2)) else none:=by
  conv=>lhs;unfold unq
  rw[if_neg (by omega),if_neg (by omega),if_pos h]
theorem unq_len:∀(k:Nat) (s:List UInt8),s.length≤k→∀p,unq s=some p→p.1.length≤s.length∧p.2.length≤s.length:=by
  intro k
  induction k with
  | zero =>
    intro s hs p h
    have:s=[]:=List.eq_nil_of_length_eq_zero (by omega)
    subst this
    cases h
  | succ k ih =>
    intro s hs p h
    cases s with
    | nil=>cases h
    | cons c r =>
      simp at hs
      unfold unq at h
      split at h
      · injection h with h;subst h;simp
      split at h
      · cases h
      split at h
      · cases r with
        | nil=>cases h
        | cons d r' =>
          simp at hs
          simp only at h
          split at h
          · obtain ⟨q,hq,rfl⟩:=Option.map_eq_some_iff.1 h
            have:=ih r' (by omega) q hq
            simp;omega
          split at h
          · obtain ⟨q,hq,rfl⟩:=Option.map_eq_some_iff.1 h
            have:=ih r' (by omega) q hq
            simp;omega
          · cases h
      · obtain ⟨q,hq,rfl⟩:=Option.map_eq_some_iff.1 h
        have:=ih r (by omega) q hq
        simp;omega
theorem unq_qt (r:List UInt8):∀v:List UInt8,unq (qt v++34::r)=some (v,r)
  | []=>unq_34 r (by decide)
  | c::v=>by
    rw[qt_cons]
    have ih:=unq_qt r v
    unfold qb
    by_cases h10:c.toNat=10
    · rw[if_pos h10]
      have hc:c=10:=UInt8.toNat_inj.1 h10
      show unq (92::(110::(qt v++34::r)))=_
      rw[unq_92 _ (by decide),if_pos (by decide),ih,hc];rfl
    rw[if_neg h10]
    by_cases h34:c.toNat=34
    · rw[if_pos h34]
      show unq (92::(c::(qt v++34::r)))=_
      rw[unq_92 _ (by decide),if_neg (by omega),if_pos (.inl h34),ih];rfl
    rw[if_neg h34]
    by_cases h92:c.toNat=92
    · rw[if_pos h92]
      show unq (92::(c::(qt v++34::r)))=_
      rw[unq_92 _ (by decide),if_neg (by omega),if_pos (.inr h92),ih];rfl
    · rw[if_neg h92]
      show unq (c::(qt v++34::r))=_
      rw[unq_oth _ h34 h10 h92,ih];rfl
theorem toB_one (b:List Int) (c:UInt8):toB (b++[((c.toNat:Nat):Int)])=toB b++[c]:=by simp[toB]
theorem drop_mid {s pre rest:List UInt8} {c:UInt8} {i:Int} (h:s=pre++c::rest) (hi:i=pre.length):List.drop (Int.toNat (i+1)) (List.take (List.length s) s)=rest:=by
  have e:Int.toNat (i+1)=(pre++[c]).length:=by simp;omega
  rw[List.take_length,e,h,show pre++c::rest=(pre++[c])++rest by simp,List.drop_left]
theorem unquote_l (n:Nat) (s:List UInt8) (hs:s.length≤1000000):∀(k:Nat) (rest pre:List UInt8) (f:Nat) (b:List Int) (i:Int),rest.length≤k→k≤f→s=pre++rest→i=pre.length→b.length≤pre.length →
    ∃z,label_unquote_l3 n (f+1) (s,b,i,())=some z∧(selim (fun _=>some ([],([],false))) (fun z=>some z) z:Option (List UInt8×(List UInt8×Bool)))=some (match unq rest with | some p=>(toB b++p.1,p.2,true) | none=>([],[],false)):=by
  intro k
  induction k with
  | zero =>
    intro rest pre f b i hr hf h hi hb
    have:rest=[]:=List.eq_nil_of_length_eq_zero (by omega)
    subst this
    rw[label_unquote_l3_eq]
    simp only[tfd,if_neg (idxe h hi rfl)]
    exact ⟨_,rfl,rfl⟩
  | succ k ih =>
    intro rest pre f b i hr hf h hi hb
    cases rest with
    | nil =>
      rw[label_unquote_l3_eq]
      simp only[tfd,if_neg (idxe h hi rfl)]
      exact ⟨_,rfl,rfl⟩
    | cons c rest =>
      have hlen:=congrArg List.length h
      simp at hlen hr
      obtain ⟨f,rfl⟩:∃g,f=g+1:=⟨f-1,by omega⟩
      rw[label_unquote_l3_eq]
      simp only[tfd,if_pos (idx h hi rfl)]
      rw[at_mid h hi,obs,idxw h hi (by omega),drop_mid h hi]
      have e1:Int.toNat (i+1)=pre.length+1:=by omega
      by_cases h34:c.toNat=34
      · rw[if_pos (show ((c.toNat:Nat):Int)=34 by omega),unq_34 _ h34,if_pos (by omega),if_pos (by omega)]
        exact ⟨_,rfl,by simp[toB]⟩
      rw[if_neg (show ¬((c.toNat:Nat):Int)=34 by omega)]
      by_cases h10:c.toNat=10
      · rw[if_pos (show ((c.toNat:Nat):Int)=10 by omega),unq_10 _ h10]
        exact ⟨_,rfl,rfl⟩
      rw[if_neg (show ¬((c.toNat:Nat):Int)=10 by omega)]
      by_cases h92:c.toNat=92
      · have q:decide (((c.toNat:Nat):Int)=92)=true:=by simp;omega
        rw[q]
        simp only[Bool.not_true,tif_ite,Bool.false_eq_true,if_false]
        cases rest with
        | nil =>
          have q2:i+1=(s.length:Int):=by simp at hlen;omega
          rw[if_pos q2,unq_92n h92]
          exact ⟨_,rfl,rfl⟩
        | cons d rest =>
          simp at hlen hr
          have q2:¬(i+1=(s.length:Int)):=by omega
          have h':s=(pre++[c])++d::rest:=by rw[h];simp
          have hi':i+1=((pre++[c]).length:Int):=by simp;omega
          rw[unq_92 _ h92,if_neg q2,at_mid h' hi',obs,idxw h' hi' (by omega)]
          have hn:=fun (b':List Int) (hb':b'.length=b.length+1)=>ih rest ((pre++[c])++[d]) f b' (i+1+1) (by omega) (by omega) (by rw[h'];simp) (by simp;omega) (by simp;omega)
          by_cases k110:d.toNat=110
          · rw[if_pos (show ((d.toNat:Nat):Int)=110 by omega),if_pos (by omega)]
            obtain ⟨z,z1,z2⟩:=hn (b++[10]) (by simp)
            refine ⟨z,z1,?_⟩
            rw[z2,if_pos k110]
            cases unq rest with
            | none=>rfl
            | some p=>simp[toB]
          rw[if_neg (show ¬((d.toNat:Nat):Int)=110 by omega)]
          simp only[if_neg k110]
          by_cases k34:d.toNat=34
          · have q3:((d.toNat:Nat):Int)=34:=by omega
            rw[if_pos q3,if_pos q3,obs,if_pos (by omega)]
            obtain ⟨z,z1,z2⟩:=hn (b++[((d.toNat:Nat):Int)]) (by simp)
            refine ⟨z,z1,?_⟩
            rw[z2,if_pos (.inl k34),toB_one]
            cases unq rest with
            | none=>rfl
            | some p=>simp
          rw[if_neg (show ¬((d.toNat:Nat):Int)=34 by omega)]
          by_cases k92:d.toNat=92
          · rw[if_pos (show ((d.toNat:Nat):Int)=92 by omega),obs,if_pos (by omega)]
            obtain ⟨z,z1,z2⟩:=hn (b++[((d.toNat:Nat):Int)]) (by simp)
            refine ⟨z,z1,?_⟩
            rw[z2,if_pos (.inr k92),toB_one]
            cases unq rest with
            | none=>rfl
            | some p=>simp
          · rw[if_neg (show ¬((d.toNat:Nat):Int)=92 by omega),if_neg (fun q=>by rcases q with q | q<;>omega)]
            exact ⟨_,rfl,rfl⟩
      · rw[unq_oth _ h34 h10 h92]
        have q:decide (((c.toNat:Nat):Int)=92)=false:=by simp;omega
        rw[q]
        simp only[Bool.not_false,tif_ite,if_true]
        rw[if_pos (by omega)]
        obtain ⟨z,z1,z2⟩:=ih rest (pre++[c]) f (b++[((c.toNat:Nat):Int)]) (i+1) (by omega) (by omega) (idxl h) (idxs hi) (by simp;omega)
        refine ⟨z,z1,?_⟩
        rw[z2,toB_one]
        cases unq rest with
        | none=>rfl
        | some p=>simp
theorem unquote_val (n:Nat) (s:List UInt8) (hs:s.length≤1000000):label_unquote (n+1) s=some (match unq s with | some p=>(p.1,p.2,true) | none=>([],[],false)):=by
  rw[label_unquote_eq]
  obtain ⟨z,z1,z2⟩:=unquote_l n s hs s.length s [] (loopFuel-1) [] 0 (Nat.le_refl _) (by unfold loopFuel;omega) rfl rfl (by simp)
  rw[show loopFuel-1+1=loopFuel by unfold loopFuel;omega] at z1
  rw[z1,obs]
  refine (Eq.trans ?_ z2).trans ?_
  · cases z<;>rfl
  · cases unq s<;>rfl
theorem NameOk.no {s:List UInt8} (h:NameOk s) {c:UInt8} (hc:¬sgn ((c.toNat:Nat):Int)):c ∉ s:=by
  intro hm
  match s,h with
  | b::r,h=>exact hc (h.2.2 c hm)
theorem chkL_name:∀(l:List Lab) (p:Option (List UInt8)),chkL p l→∀x∈l,NameOk x.1
  | [],_,_,x,hx=>by cases hx
  | y::l,p,h,x,hx=>by
    rcases List.mem_cons.1 hx with rfl | hx
    · exact h.1
    · exact chkL_name l _ h.2.2.2 x hx
theorem parse_tot (n:Nat):∀(k f:Nat) (rest:List UInt8) (ok:Bool) (out:List Lab),17-out.length≤k→out.length≤17→rest.length≤100000 →
    ∃y:List UInt8×(Bool×(List Lab×Unit)),label_Parse_l3 (n+3) (f+k+1) (rest,ok,out,())=some (.inl y):=by
  intro k
  induction k with
  | zero =>
    intro f rest ok out hk ho hr
    rw[label_Parse_l3_eq]
    simp only[tif_ite,decide_eq_true_eq]
    by_cases h1:ok=true
    · rw[if_pos h1]
      by_cases h2:(!(rest==[125]))=true
      · rw[if_pos h2,if_neg (by omega)];exact ⟨_,rfl⟩
      · rw[if_neg h2];exact ⟨_,rfl⟩
    · rw[if_neg h1];exact ⟨_,rfl⟩
  | succ k ih =>
    intro f rest ok out hk ho hr
    rw[show f+(k+1)+1=(f+k+1)+1 by omega,label_Parse_l3_eq]
    simp only[tif_ite,decide_eq_true_eq]
    by_cases h1:ok=true
    · rw[if_pos h1]
      by_cases h2:(!(rest==[125]))=true
      · rw[if_pos h2]
        by_cases h3:((out.length:Nat):Int)≤16
        · rw[if_pos h3]
          have step:∀s:List UInt8,s.length≤100000→∃y:List UInt8×(Bool×(List Lab×Unit)),(obind (strings_Cut (n+3) s [61,34]) fun r1=>obind (label_unquote (n+3) r1.2.1) fun r2 =>
              if (out.length+1)*32≤140737488355328 then (if r1.2.2=true then label_Parse_l3 (n+3) (f+k+1) (r2.2.1,(r2.2.2,((out++((r1.1,r2.1)::[])),()))) else label_Parse_l3 (n+3) (f+k+1) (r2.2.1,(false,((out++((r1.1,r2.1)::[])),())))) else none)=some (.inl y):=by
            intro s hs
            obtain ⟨hc1,hc2⟩:=cutV_len s [61,34]
            rw[cut_val n s _ (by omega) (by simp) (by simp),obs,unquote_val (n+2) _ (by omega),obs,if_pos (by omega)]
            have hu:(match unq (cutV s [61,34]).2.1 with | some p=>(p.1,p.2,true) | none=>(([]:List UInt8),([]:List UInt8),false)).2.1.length≤100000:=by
              cases hq:unq (cutV s [61,34]).2.1 with
              | none=>simp
              | some p=>have:=(unq_len _ _ (Nat.le_refl _) p hq).2;simp;omega
            split
            · exact ih f _ _ _ (by simp;omega) (by simp;omega) hu
            · exact ih f _ _ _ (by simp;omega) (by simp;omega) hu
          by_cases h4:0<((out.length:Nat):Int)
          · rw[if_pos h4,cutp_val n 44 rest,obs]
            by_cases h5:(!(cutP 44 rest).2)=true
            · rw[if_pos h5];exact ⟨_,rfl⟩
            · rw[if_neg h5]
              exact step _ (by have:=cutP_len 44 rest;omega)
          · rw[if_neg h4]
            exact step _ hr
        · rw[if_neg h3];exact ⟨_,rfl⟩
      · rw[if_neg h2];exact ⟨_,rfl⟩
    · rw[if_neg h1];exact ⟨_,rfl⟩
theorem parse_l (n:Nat) (l:List Lab) (hl:l.length≤16) (hx:∀x∈l,NameOk x.1∧x.1.length≤64∧x.2.length≤128):∀(rest pre:List Lab) (f:Nat),l=pre++rest→(pre=[]→rest≠[]) →
    label_Parse_l3 (n+3) (f+rest.length+1) ((if pre=[] then bodyT rest else bodyL 44 rest)++[125],true,pre,())=some (.inl ([125],true,l,())):=by
  intro rest
  induction rest with
  | nil =>
    intro pre f h hp
    have hp':pre≠[]:=fun q=>hp q rfl
    obtain rfl:l=pre:=by simpa using h
    rw[label_Parse_l3_eq,if_neg hp']
    simp[bodyL,tif_ite]
  | cons x rest ih =>
    intro pre f h hp
    have hlen:=congrArg List.length h
    simp at hlen
    obtain ⟨hn,h64,h128⟩:=hx x (by rw[h];simp)
    have h61:(61:UInt8) ∉ x.1:=hn.no (by decide)
    have hb:(bodyL 44 rest).length≤401*rest.length:=bodyL_len rest 44 fun y hy=>(hx y (by rw[h];simp[hy])).2
    have hq:=qt_len x.2
    rw[show f+(x::rest).length+1=(f+rest.length+1)+1 by simp;omega,label_Parse_l3_eq]
    have hnext:=ih (pre++[x]) f (by rw[h];simp) (by simp)
    rw[if_neg (by simp)] at hnext
    have step:(obind (strings_Cut (n+3) (labT x++bodyL 44 rest++[125]) [61,34]) fun r1=>obind (label_unquote (n+3) r1.2.1) fun r2 =>
        if (pre.length+1)*32≤140737488355328 then (if r1.2.2=true then label_Parse_l3 (n+3) (f+rest.length+1) (r2.2.1,(r2.2.2,((pre++((r1.1,r2.1)::[])),()))) else label_Parse_l3 (n+3) (f+rest.length+1) (r2.2.1,(false,((pre++((r1.1,r2.1)::[])),())))) else none)=some (.inl ([125],true,l,())):=by
      have e:labT x++bodyL 44 rest++[125]=x.1++([61,34]++(qt x.2++34::(bodyL 44 rest++[125]))):=by simp[labT]
      rw[cut_val n _ _ (by rw[e];simp;omega) (by simp) (by simp),obs,e,cutV_at h61]
      simp only
      rw[unquote_val (n+2) _ (by simp;omega),obs,unq_qt,if_pos (by omega),if_pos trivial]
      exact hnext
    have hne:∀c:List UInt8,2≤c.length→(!(c==[125]))=true:=by
      intro c hc
      have:(c==[125])=false:=by
        cases hq:(c==[125]) with
        | false=>rfl
        | true=>have:=eq_of_beq hq;subst this;simp at hc
      rw[this];rfl
    simp only[tif_ite,decide_eq_true_eq,if_true]
    by_cases hp0:pre=[]
    · rw[if_pos hp0,if_pos (hne _ (by simp[bodyT,labT];omega)),if_pos (by omega),if_neg (by rw[hp0];simp)]
      exact step
    · have hpl:0<pre.length:=List.length_pos_iff.2 hp0
      rw[if_neg hp0,if_pos (hne _ (by simp[bodyL,labT];omega)),if_pos (by omega),if_pos (by omega),cutp_val n 44,obs]
      have q:cutP 44 (bodyL 44 (x::rest)++[125])=(labT x++bodyL 44 rest++[125],true):=by
        show (if (44:UInt8)=44 then ((labT x++bodyL 44 rest)++[125],true) else (44::((labT x++bodyL 44 rest)++[125]),false))=_
        rw[if_pos rfl]
      rw[q]
      simp only[Bool.not_true,Bool.false_eq_true,if_false]
      exact step
theorem label_parse_tot (n:Nat) (s:List UInt8) (hs:s.length≤100000):∃r:List Lab×Int,label_Parse (n+7) s=some r∧((r.2=0∧LabOk r.1)∨r=([],4)):=by
  rw[label_Parse_eq,cutp_val (n+3) 123 s,obs]
  obtain ⟨y,hy⟩:=parse_tot (n+3) 17 (loopFuel-18) (cutP 123 s).1 (cutP 123 s).2 [] (by simp) (by simp) (by have:=cutP_len 123 s;omega)
  rw[show loopFuel-18+17+1=loopFuel by unfold loopFuel;omega] at hy
  rw[hy,obs,selim_inl,label_check n y.2.2.1,obs]
  simp only[tif_ite]
  by_cases h1:(!y.2.1)=true
  · rw[if_pos h1];exact ⟨_,rfl,.inr rfl⟩
  rw[if_neg h1]
  by_cases h2:(!(y.1==[125]))=true
  · rw[if_pos h2];exact ⟨_,rfl,.inr rfl⟩
  rw[if_neg h2]
  by_cases h3:LabOk y.2.2.1
  · rw[if_pos h3];exact ⟨_,rfl,.inl ⟨rfl,h3⟩⟩
  · rw[if_neg h3];exact ⟨_,rfl,.inr rfl⟩
theorem bodyL_ne {l:List Lab} (h:l≠[]) (c:UInt8):bodyL c l=c::bodyT l:=by
  cases l with
  | nil=>exact absurd rfl h
  | cons x r=>rfl
theorem LabOk.ne {l:List Lab} (h:LabOk l):l≠[]:=by
  intro q;subst q;have:=h.n0;simp at this
theorem label_parse_text (n:Nat) {l:List Lab} (h:LabOk l):label_Parse (n+7) (textL l)=some (l,0):=by
  rw[label_Parse_eq,cutp_val (n+3) 123,obs]
  have q:cutP 123 (textL l)=(bodyT l++[125],true):=by
    unfold textL
    rw[bodyL_ne h.ne]
    show (if (123:UInt8)=123 then (bodyT l++[125],true) else (123::(bodyT l++[125]),false))=_
    rw[if_pos rfl]
  have hp:=parse_l (n+3) l h.n1 (fun x hx=>⟨chkL_name l none h.c x hx,chkL_len l none h.c x hx⟩) l [] (loopFuel-l.length-1) rfl (fun _=>h.ne)
  rw[←lfu (by have:=h.n1;omega),if_pos rfl] at hp
  rw[q]
  show obind (label_Parse_l3 (n+6) loopFuel (bodyT l++[125],true,[],())) _=_
  rw[hp,obs,selim_inl,label_check n l,obs,if_pos h]
  simp[tif_ite]
def val5:List UInt8→Option (List UInt8×Nat)
  | []=>none
  | c :: r => if c.toNat = 34 then some ([], 1) else if c.toNat = 92 then
      (match r with
      | []=>none
      | d::r'=>if d.toNat=110 then (val5 r').map (fun p=>(10::p.1,p.2+2)) else (val5 r').map (fun p=>(d::p.1,p.2+2)))
    else (val5 r).map (fun p=>(c::p.1,p.2+1))
theorem val5_34 {c:UInt8} (r:List UInt8) (h:c.toNat=34):val5 (c::r)=some ([],1):=by unfold val5;rw[if_pos h]
theorem val5_oth {c:UInt8} (r:List UInt8) (h:¬c.toNat=34) (h'':¬c.toNat=92):val5 (c::r)=(val5 r).map (fun p=>(c::p.1,p.2+1)):=by
  conv=>lhs;unfold val5
  rw[if_neg h,if_neg h'']
theorem val5_92n {c:UInt8} (h:c.toNat=92):val5 [c]=none:=by
  unfold val5
  rw[if_neg (by omega),if_pos h]
theorem val5_92 {c d:UInt8} (r:List UInt8) (h:c.toNat=92):val5 (c::d::r)=if d.toNat=110 then (val5 r).map (fun p=>(10::p.1,p.2+2)) else (val5 r).map (fun p=>(d::p.1,p.2+2)):=by
  conv=>lhs;unfold val5
  rw[if_neg (by omega),if_pos h]
theorem val5_len:∀(k:Nat) (s:List UInt8),s.length≤k→∀p,val5 s=some p→p.1.length≤s.length∧p.2≤s.length:=by
  intro k
  induction k with
  | zero =>
    intro s hs p h
    have:s=[]:=List.eq_nil_of_length_eq_zero (by omega)
    subst this
    cases h
  | succ k ih =>
    intro s hs p h
    cases s with
    | nil=>cases h
    | cons c r =>
      simp at hs
      by_cases h34:c.toNat=34
      · rw[val5_34 _ h34] at h;injection h with h;subst h;simp
      by_cases h92:c.toNat=92
      · cases r with
        | nil=>rw[val5_92n h92] at h;cases h
        | cons d r' =>
          simp at hs
          rw[val5_92 _ h92] at h
          split at h
          · obtain ⟨q,hq,rfl⟩:=Option.map_eq_some_iff.1 h
            have:=ih r' (by omega) q hq
            simp;omega
          · obtain ⟨q,hq,rfl⟩:=Option.map_eq_some_iff.1 h
            have:=ih r' (by omega) q hq
            simp;omega
      · rw[val5_oth _ h34 h92] at h
        obtain ⟨q,hq,rfl⟩:=Option.map_eq_some_iff.1 h
        have:=ih r (by omega) q hq
        simp;omega
theorem val5_qt (r:List UInt8):∀v:List UInt8,val5 (qt v++34::r)=some (v,(qt v).length+1)
  | []=>val5_34 r (by decide)
  | c::v=>by
    rw[qt_cons]
    have ih:=val5_qt r v
    unfold qb
    by_cases h10:c.toNat=10
    · rw[if_pos h10]
      have hc:c=10:=UInt8.toNat_inj.1 h10
      show val5 (92::(110::(qt v++34::r)))=_
      rw[val5_92 _ (by decide),if_pos (by decide),ih,hc];simp<;>omega
    rw[if_neg h10]
    by_cases h34:c.toNat=34
    · rw[if_pos h34]
      show val5 (92::(c::(qt v++34::r)))=_
      rw[val5_92 _ (by decide),if_neg (by omega),ih];simp<;>omega
    rw[if_neg h34]
    by_cases h92:c.toNat=92
    · rw[if_pos h92]
      show val5 (92::(c::(qt v++34::r)))=_
      rw[val5_92 _ (by decide),if_neg (by omega),ih];simp<;>omega
    · rw[if_neg h92]
      show val5 (c::(qt v++34::r))=_
      rw[val5_oth _ h34 h92,ih];simp<;>omega
theorem value5_l (n:Nat) (s:List UInt8) (hs:s.length≤1000000):∀(k:Nat) (rest pre:List UInt8) (f:Nat) (o:List UInt8) (i:Int),rest.length≤k→k≤f→s=pre++rest→i=pre.length→o.length≤pre.length →
    ∃z,r05_value_l3 n (f+1) (s,o,i,())=some z∧(selim (fun _=>some ([],(-1:Int))) (fun z=>some z) z:Option (List UInt8×Int))=some (match val5 rest with | some p=>(o++p.1,i+(p.2:Int)) | none=>([],-1)):=by
  intro k
  induction k with
  | zero =>
    intro rest pre f o i hr hf h hi hb
    have:rest=[]:=List.eq_nil_of_length_eq_zero (by omega)
    subst this
    rw[r05_value_l3_eq]
    simp only[tfd,if_neg (idxe h hi rfl)]
    exact ⟨_,rfl,rfl⟩
  | succ k ih =>
    intro rest pre f o i hr hf h hi hb
    cases rest with
    | nil =>
      rw[r05_value_l3_eq]
      simp only[tfd,if_neg (idxe h hi rfl)]
      exact ⟨_,rfl,rfl⟩
    | cons c rest =>
      have hlen:=congrArg List.length h
      simp at hlen hr
      obtain ⟨f,rfl⟩:∃g,f=g+1:=⟨f-1,by omega⟩
      rw[r05_value_l3_eq]
      simp only[tfd,if_pos (idx h hi rfl)]
      rw[at_mid h hi,obs,idxw h hi (by omega),obs,one_at h hi]
      by_cases h34:c.toNat=34
      · rw[if_pos (show ((c.toNat:Nat):Int)=34 by omega),val5_34 _ h34]
        exact ⟨_,rfl,by simp⟩
      rw[if_neg (show ¬((c.toNat:Nat):Int)=34 by omega)]
      by_cases h92:c.toNat=92
      · have q:decide (((c.toNat:Nat):Int)=92)=true:=by simp;omega
        rw[q]
        simp only[Bool.not_true,tif_ite,Bool.false_eq_true,if_false]
        cases rest with
        | nil =>
          have q2:¬(i+1<(s.length:Int)):=by simp at hlen;omega
          rw[if_neg q2,if_neg q2,val5_92n h92]
          exact ⟨_,rfl,rfl⟩
        | cons d rest =>
          simp at hlen hr
          have q2:i+1<(s.length:Int):=by omega
          have h':s=(pre++[c])++d::rest:=by rw[h];simp
          have hi':i+1=((pre++[c]).length:Int):=by simp;omega
          have ho:=one_at h' hi'
          have e2:i+1+1=i+2:=by omega
          rw[e2] at ho
          have e3:IntKind.wrap .i64 (i+1+1)=i+2:=by rw[w64 (by omega) (by omega),e2]
          have e4:IntKind.wrap .i64 (i+2)=i+2:=w64 (by omega) (by omega)
          have c2:(decide ((((Int.toNat (i+1)):Nat):Int)≤i+2)&&decide (i+2≤((s.length:Nat):Int)))=true:=by simp;omega
          rw[val5_92 _ h92,if_pos q2,if_pos q2,at_mid h' hi',obs,e3,e4,ho,c2]
          have hn:=fun (b':List UInt8) (hb':b'.length=o.length+1)=>ih rest ((pre++[c])++[d]) f b' (i+2) (by omega) (by omega) (by rw[h'];simp) (by simp;omega) (by simp;omega)
          simp only[if_true]
          by_cases k110:d.toNat=110
          · rw[if_pos (show ((d.toNat:Nat):Int)=110 by omega),if_pos (by omega),if_pos k110]
            obtain ⟨z,z1,z2⟩:=hn (o++[10]) (by simp)
            refine ⟨z,z1,?_⟩
            rw[z2]
            cases val5 rest with
            | none=>rfl
            | some p=>simp;omega
          · rw[if_neg (show ¬((d.toNat:Nat):Int)=110 by omega),if_neg k110,if_pos (by omega),if_pos (by simp;omega)]
            obtain ⟨z,z1,z2⟩:=hn (o++[d]) (by simp)
            refine ⟨z,z1,?_⟩
            rw[z2]
            cases val5 rest with
            | none=>rfl
            | some p=>simp;omega
      · have q:decide (((c.toNat:Nat):Int)=92)=false:=by simp;omega
        have c2:(decide ((((Int.toNat i):Nat):Int)≤i+1)&&decide (i+1≤((s.length:Nat):Int)))=true:=by simp;omega
        rw[q,c2,val5_oth _ h34 h92]
        simp only[Bool.not_false,tif_ite,if_true]
        rw[if_pos (by omega),if_pos (by simp;omega)]
        obtain ⟨z,z1,z2⟩:=ih rest (pre++[c]) f (o++[c]) (i+1) (by omega) (by omega) (idxl h) (idxs hi) (by simp;omega)
        refine ⟨z,z1,?_⟩
        rw[z2]
        cases val5 rest with
        | none=>rfl
        | some p=>simp;omega
theorem value5_val (n:Nat) (s:List UInt8) (hs:s.length≤1000000):r05_value (n+1) s=some (match val5 s with | some p=>(p.1,(p.2:Int)) | none=>([],-1)):=by
  rw[r05_value_eq]
  obtain ⟨z,z1,z2⟩:=value5_l n s hs s.length s [] (loopFuel-1) [] 0 (Nat.le_refl _) (by unfold loopFuel;omega) rfl rfl (by simp)
  rw[show loopFuel-1+1=loopFuel by unfold loopFuel;omega] at z1
  rw[z1,obs]
  refine (Eq.trans ?_ z2).trans ?_
  · cases z<;>rfl
  · cases val5 s<;>simp
def scan61:List UInt8→Nat
  | []=>0
  | c::r=>if c.toNat=61 then 0 else scan61 r+1
theorem scan61_le:∀s,scan61 s≤s.length
  | []=>Nat.le_refl _
  | c::r=>by
    have:=scan61_le r
    unfold scan61
    split<;>simp<;>omega
theorem scan61_at (q:List UInt8):∀a:List UInt8,(61:UInt8) ∉ a→scan61 (a++61::q)=a.length
  | [],_=>by show scan61 (61::q)=0;unfold scan61;rw[if_pos (by decide)]
  | c::a,h=>by
    have hc:¬c.toNat=61:=fun e=>h (by rw[show c=61 from UInt8.toNat_inj.1 e];exact List.mem_cons_self)
    have:=scan61_at q a (fun k=>h (List.mem_cons_of_mem _ k))
    show scan61 (c::(a++61::q))=_
    unfold scan61
    rw[if_neg hc,this];rfl
theorem r05_scan (n:Nat) (s:List UInt8) (out:List Lab) (t:List UInt8) (ht:t.length≤1000000):∀(rest pre:List UInt8) (f:Nat) (i:Int),t=pre++rest→i=pre.length →
    r05_Parse_l5 n (f+rest.length+1) (s,out,t,i,())=some (.inl (s,out,t,i+(scan61 rest:Int),())):=by
  intro rest
  induction rest with
  | nil =>
    intro pre f i h hi
    rw[r05_Parse_l5_eq]
    simp only[tfd,if_neg (idxe h hi rfl)]
    simp[scan61]
  | cons c rest ih =>
    intro pre f i h hi
    rw[show f+(c::rest).length+1=(f+rest.length+1)+1 by simp;omega,r05_Parse_l5_eq]
    simp only[tfd,if_pos (idx h hi rfl)]
    rw[at_mid h hi,obs,idxw h hi (by omega)]
    unfold scan61
    by_cases hc:c.toNat=61
    · have q:decide (((c.toNat:Nat):Int)=61)=true:=by simp;omega
      rw[q,if_pos hc]
      simp[tif_ite]
    · have q:decide (((c.toNat:Nat):Int)=61)=false:=by simp;omega
      rw[q,if_neg hc]
      simp only[Bool.not_false,tif_ite,if_true]
      rw[ih (pre++[c]) f (i+1) (idxl h) (idxs hi)]
      congr 6
      push_cast
      omega
theorem r05_parse_tot (n:Nat) (s:List UInt8):∀(k f:Nat) (rest:List UInt8) (out:List Lab),17-out.length≤k→out.length≤17→rest.length≤100000 →
    ∃z:(List UInt8×(List Lab×Unit)) ⊕ (List Lab×Int),r05_Parse_l3 (n+1) (f+k+1) (s,out,rest,())=some z∧(∀w,z = .inr w→w=([],4))∧∀y,z = .inl y→y.1=s:=by
  intro k
  induction k with
  | zero =>
    intro f rest out hk ho hr
    rw[r05_Parse_l3_eq]
    simp only[tfd]
    rw[if_neg (by omega)]
    exact ⟨_,rfl,fun w h=>(by cases h),fun y h=>(by injection h with h;subst h;rfl)⟩
  | succ k ih =>
    intro f rest out hk ho hr
    rw[show f+(k+1)+1=(f+k+1)+1 by omega,r05_Parse_l3_eq]
    simp only[tif_ite,decide_eq_true_eq]
    by_cases h1:((out.length:Nat):Int)≤16
    · rw[if_pos h1]
      by_cases h2:1<((rest.length:Nat):Int)
      · rw[if_pos h2]
        cases rest with
        | nil=>simp at h2
        | cons c r =>
          have hsc:=scan61_le r
          have hr':(c::r).length=r.length+1:=rfl
          have hq:=r05_scan (n+1) s out (c::r) (by omega) r [c] (loopFuel-r.length-1) 1 rfl rfl
          rw[←lfu (by omega)] at hq
          rw[hq,obs,selim_inl]
          simp only
          obtain ⟨a,ha⟩:∃a:Nat,scan61 r=a:=⟨_,rfl⟩
          rw[ha] at hsc
          rw[ha]
          have w1:IntKind.wrap .i64 ((1:Int)+(a:Int)+1)=((a+2:Nat):Int):=by rw[w64 (by omega) (by omega)];omega
          have w2:IntKind.wrap .i64 ((1:Int)+(a:Int)+2)=((a+3:Nat):Int):=by rw[w64 (by omega) (by omega)];omega
          rw[w1,w2]
          by_cases h3:(((c::r).length:Nat):Int)<((a+3:Nat):Int)
          · rw[if_pos h3]
            exact ⟨_,rfl,fun w h=>(Sum.inr.inj h).symm,fun y h=>(by cases h)⟩
          rw[if_neg h3]
          have hne:(List.drop (Int.toNat ((a+2:Nat):Int)) (List.take (c::r).length (c::r))==[])=false:=by
            cases hd:List.drop (Int.toNat ((a+2:Nat):Int)) (List.take (c::r).length (c::r)) with
            | nil =>
              have:=congrArg List.length hd
              simp at this
              simp at h3
              omega
            | cons _ _=>rfl
          rw[hne,if_pos (by omega),if_pos (by omega),if_neg (by simp),if_pos (by omega),if_pos (by omega)]
          rw[value5_val n _ (by simp;omega),obs]
          cases hv:val5 (List.drop (Int.toNat ((a+3:Nat):Int)) (List.take (c::r).length (c::r))) with
          | none =>
            simp only
            rw[if_pos (by decide)]
            exact ⟨_,rfl,fun w h=>(Sum.inr.inj h).symm,fun y h=>(by cases h)⟩
          | some p =>
            have hp:=(val5_len _ _ (Nat.le_refl _) p hv).2
            simp at hp
            simp only
            rw[if_neg (by omega),if_pos (by simp;omega),if_pos (by omega)]
            have w3:IntKind.wrap .i64 (((a+3:Nat):Int)+((p.2:Nat):Int))=((a+3+p.2:Nat):Int):=by rw[w64 (by omega) (by omega)];omega
            rw[w3,if_pos (by omega),if_pos (by simp;omega)]
            exact ih f _ _ (by simp;omega) (by simp;omega) (by simp;omega)
      · rw[if_neg h2]
        exact ⟨_,rfl,fun w h=>(by cases h),fun y h=>(by injection h with h;subst h;rfl)⟩
    · rw[if_neg h1]
      exact ⟨_,rfl,fun w h=>(by cases h),fun y h=>(by injection h with h;subst h;rfl)⟩
theorem r05_parse_l (n:Nat) (s:List UInt8) (l:List Lab) (hl:l.length≤16) (hx:∀x∈l,NameOk x.1∧x.1.length≤64∧x.2.length≤128):∀(rest pre:List Lab) (f:Nat) (c:UInt8),l=pre++rest →
    r05_Parse_l3 (n+1) (f+rest.length+1) (s,pre,bodyL c rest++[125],())=some (.inl (s,l,())):=by
  intro rest
  induction rest with
  | nil =>
    intro pre f c h
    obtain rfl:l=pre:=by simpa using h
    rw[r05_Parse_l3_eq]
    simp only[tfd]
    rw[if_pos (by omega),if_neg (by simp[bodyL])]
  | cons x rest ih =>
    intro pre f c h
    have hlen:=congrArg List.length h
    simp at hlen
    obtain ⟨hn,h64,h128⟩:=hx x (by rw[h];simp)
    have h61:(61:UInt8) ∉ x.1:=hn.no (by decide)
    have hb:(bodyL 44 rest).length≤401*rest.length:=bodyL_len rest 44 fun y hy=>(hx y (by rw[h];simp[hy])).2
    have hq:=qt_len x.2
    rw[show f+(x::rest).length+1=(f+rest.length+1)+1 by simp;omega,r05_Parse_l3_eq]
    obtain ⟨T,hT⟩:∃T,T=bodyL 44 rest++[125]:=⟨_,rfl⟩
    have hTl:T.length≤401*rest.length+1:=by rw[hT];simp;omega
    have hT1:1≤T.length:=by rw[hT];simp
    have e:bodyL c (x::rest)++[125]=c::(x.1++61::(34::(qt x.2++34::T))):=by rw[hT];simp[bodyL,labT]
    obtain ⟨R,hR⟩:∃R,R=x.1++61::(34::(qt x.2++34::T)):=⟨_,rfl⟩
    have hRl:R.length=x.1.length+3+(qt x.2).length+T.length:=by rw[hR];simp;omega
    rw[e,←hR]
    simp only[tif_ite,decide_eq_true_eq]
    rw[if_pos (by omega),if_pos (by simp;omega)]
    have hs:=r05_scan (n+1) s pre (c::R) (by simp;omega) R [c] (loopFuel-R.length-1) 1 rfl rfl
    rw[←lfu (by omega)] at hs
    have hsc:scan61 R=x.1.length:=by rw[hR];exact scan61_at _ _ h61
    rw[hs,obs,selim_inl,hsc]
    simp only
    obtain ⟨a,ha⟩:∃a:Nat,x.1.length=a:=⟨_,rfl⟩
    rw[ha]
    have w1:IntKind.wrap .i64 ((1:Int)+(a:Int)+1)=((a+2:Nat):Int):=by rw[w64 (by omega) (by omega)];omega
    have w2:IntKind.wrap .i64 ((1:Int)+(a:Int)+2)=((a+3:Nat):Int):=by rw[w64 (by omega) (by omega)];omega
    have hcl:(c::R).length=R.length+1:=rfl
    have d3:List.drop (Int.toNat ((a+3:Nat):Int)) (List.take (c::R).length (c::R))=qt x.2++34::T:=by
      rw[List.take_length,Int.toNat_natCast,hR]
      show List.drop (a+2) (x.1++61::(34::(qt x.2++34::T)))=_
      rw[←ha,show x.1++61::(34::(qt x.2++34::T))=(x.1++[61,34])++(qt x.2++34::T) by simp,show x.1.length+2=(x.1++[61,34]).length by simp,List.drop_left]
    have hne:(List.drop (Int.toNat ((a+2:Nat):Int)) (List.take (c::R).length (c::R))==[])=false:=by
      cases hd:List.drop (Int.toNat ((a+2:Nat):Int)) (List.take (c::R).length (c::R)) with
      | nil =>
        have:=congrArg List.length hd
        simp at this
        omega
      | cons _ _=>rfl
    rw[w1,w2,hne,d3,if_neg (by omega),if_pos (by omega),if_pos (by omega),if_neg (by simp),if_pos (by omega),if_pos (by omega)]
    rw[value5_val n _ (by simp;omega),obs,val5_qt]
    simp only
    have w3:IntKind.wrap .i64 (((a+3:Nat):Int)+(((qt x.2).length+1:Nat):Int))=((a+3+((qt x.2).length+1):Nat):Int):=by rw[w64 (by omega) (by omega)];omega
    rw[if_neg (by omega),if_pos (by simp;omega),if_pos (by omega),w3,if_pos (by omega),if_pos (by simp;omega)]
    have d4:List.drop (Int.toNat ((a+3+((qt x.2).length+1):Nat):Int)) (List.take (c::R).length (c::R))=T:=by
      have:List.drop (Int.toNat ((a+3+((qt x.2).length+1):Nat):Int)) (List.take (c::R).length (c::R))=List.drop ((qt x.2).length+1) (List.drop (Int.toNat ((a+3:Nat):Int)) (List.take (c::R).length (c::R))):=by
        rw[List.drop_drop];congr 1
      rw[this,d3,show qt x.2++34::T=(qt x.2++[34])++T by simp,show (qt x.2).length+1=(qt x.2++[34]).length by simp,List.drop_left]
    have d5:List.drop 1 (List.take (Int.toNat ((1:Int)+(a:Int))) (c::R))=x.1:=by
      rw[show Int.toNat ((1:Int)+(a:Int))=a+1 by omega,List.take_succ_cons]
      show List.take a R=x.1
      rw[hR,←ha,List.take_left]
    rw[d4,d5,hT]
    exact ih (pre++[x]) f 44 (by rw[h];simp)
theorem r05_parse_any (n:Nat) (s:List UInt8) (hs:s.length≤100000):∃r:List Lab×Int,r05_Parse (n+4) s=some r∧(LabOk r.1∨r.1=[]):=by
  rw[r05_Parse_eq]
  obtain ⟨z,h1,h2,h3⟩:=r05_parse_tot (n+2) s 17 (loopFuel-18) s [] (by simp) (by simp) hs
  rw[show loopFuel-18+17+1=loopFuel by unfold loopFuel;omega] at h1
  rw[h1,obs]
  cases z with
  | inr w =>
    rw[selim_inr,h2 w rfl]
    exact ⟨_,rfl,.inr rfl⟩
  | inl y =>
    rw[selim_inl,r05_text n y.2.1,obs]
    by_cases hk:LabOk y.2.1
    · rw[if_pos hk]
      simp only[decide_true,Bool.not_true,tif_ite,Bool.false_eq_true,if_false]
      by_cases he:(!(textL y.2.1==y.1))=true
      · rw[if_pos he];exact ⟨_,rfl,.inr rfl⟩
      · rw[if_neg he];exact ⟨_,rfl,.inl hk⟩
    · rw[if_neg hk]
      exact ⟨_,rfl,.inr rfl⟩
theorem r05_parse_text (n:Nat) {l:List Lab} (h:LabOk l):r05_Parse (n+4) (textL l)=some (l,0):=by
  rw[r05_Parse_eq]
  have hp:=r05_parse_l (n+2) (textL l) l h.n1 (fun x hx=>⟨chkL_name l none h.c x hx,chkL_len l none h.c x hx⟩) l [] (loopFuel-l.length-1) 123 rfl
  rw[←lfu (by have:=h.n1;omega)] at hp
  show obind (r05_Parse_l3 (n+3) loopFuel (textL l,[],bodyL 123 l++[125],())) _=_
  rw[hp,obs,selim_inl]
  simp only
  rw[r05_text n l,obs,if_pos h]
  simp[tif_ite]
end Go.Proofs.YtjionkknnajjgaaGreatDoor

namespace Go.Plim
set_option linter.unusedVariables false
def tz:Nat→Nat→Nat
  | 0,_=>0
  | k+1,x=>if x % 2=1 then 0 else tz k (x / 2)+1
theorem tz_odd (k x:Nat) (h:x % 2=1):tz k x=0:=by cases k<;>simp[tz,h]
theorem tz_spec:∀(k x:Nat),0<x→x<2^k→tz k x<k∧x=2^tz k x*(x / 2^tz k x)∧(x / 2^tz k x) % 2=1:=by
  intro k
  induction k with
  | zero=>intro x h0 h1;simp at h1;omega
  | succ k ih =>
    intro x h0 h1
    by_cases h:x % 2=1
    · rw[tz_odd (k+1) x h]
      simp[h]
    · have e:tz (k+1) x=tz k (x / 2)+1:=by simp[tz,h]
      rw[Nat.pow_succ] at h1
      obtain ⟨a1,a2,a3⟩:=ih (x / 2) (by omega) (by omega)
      rw[e,Nat.pow_succ,Nat.mul_comm (2^tz k (x / 2)) 2,←Nat.div_div_eq_div_mul]
      refine ⟨by omega,?_,a3⟩
      rw[Nat.mul_assoc,←a2]
      omega
def bl:Nat→Nat→Nat
  | 0,_=>0
  | k+1,x=>if x=0 then 0 else bl k (x / 2)+1
theorem bl_zero (k:Nat):bl k 0=0:=by cases k<;>simp[bl]
theorem bl_spec:∀(k x:Nat),x<2^k→x<2^bl k x∧(0<x→0<bl k x∧2^(bl k x-1)≤x)∧bl k x≤k:=by
  intro k
  induction k with
  | zero=>intro x h;simp[bl] at *;omega
  | succ k ih =>
    intro x h
    by_cases h0:x=0
    · subst h0;rw[bl_zero];simp
    · have e:bl (k+1) x=bl k (x / 2)+1:=by simp[bl,h0]
      rw[Nat.pow_succ] at h
      obtain ⟨a1,a2,a3⟩:=ih (x / 2) (by omega)
      rw[e]
      refine ⟨by rw[Nat.pow_succ];omega,fun _=>⟨by omega,?_⟩,by omega⟩
      rw[Nat.add_sub_cancel]
      by_cases h1:x / 2=0
      · rw[h1,bl_zero];simp;omega
      · obtain ⟨b1,b2⟩:=a2 (by omega)
        have:2^bl k (x / 2)=2^(bl k (x / 2)-1)*2:=by rw[←Nat.pow_succ];congr 1;omega
        omega
theorem bl_unique {k x b:Nat} (h:x<2^k) (h0:0<x) (h1:2^b≤x) (h2:x<2^(b+1)):bl k x=b+1:=by
  obtain ⟨a1,a2,_⟩:=bl_spec k x h
  obtain ⟨c1,c2⟩:=a2 h0
  have d1:b<bl k x:=by
    rcases Nat.lt_or_ge b (bl k x) with q | q
    · exact q
    · have:=Nat.pow_le_pow_right (show 0<2 by decide) q;omega
  have d2:bl k x-1<b+1:=by
    rcases Nat.lt_or_ge (bl k x-1) (b+1) with q | q
    · exact q
    · have:=Nat.pow_le_pow_right (show 0<2 by decide) q;omega
  omega
theorem div_step {A D L i q r:Nat} (hD:0<D) (h:A / 2^(i+1)=D*q+r) (hr:r<D) :
    (D≤2*r+A / 2^i % 2→A / 2^i=D*(2*q+1)+(2*r+A / 2^i % 2-D)∧2*r+A / 2^i % 2-D<D) ∧
    (2*r+A / 2^i % 2<D→A / 2^i=D*(2*q)+(2*r+A / 2^i % 2)):=by
  rw[Nat.pow_succ,←Nat.div_div_eq_div_mul] at h
  have h1:=Nat.div_add_mod (A / 2^i) 2
  rw[h] at h1
  have e1:2*(D*q+r)=D*(2*q)+2*r:=by rw[Nat.mul_add,Nat.mul_left_comm]
  have e2:D*(2*q+1)=D*(2*q)+D:=by rw[Nat.mul_add,Nat.mul_one]
  generalize D*(2*q)=Z at *
  constructor
  · intro k;rw[e2];omega
  · intro k;omega
end Go.Plim

namespace Go.Plim
set_option linter.unusedVariables false
def ndF:Nat→Nat→Nat
  | 0,_=>1
  | f+1,u=>if u<10 then 1 else ndF f (u / 10)+1
def ndg (u:Nat):Nat:=ndF 64 u
def dgs:Nat→Nat→List Int
  | _,0=>[]
  | u,k+1=>dgs (u / 10) k++[((48+u % 10:Nat):Int)]
def decI (u:Nat):List Int:=dgs u (ndg u)
def itoI (z:Int):List Int:=if z<0 then 45::decI z.natAbs else decI z.toNat
theorem dgs_len:∀(k u:Nat),(dgs u k).length=k:=by
  intro k
  induction k with
  | zero=>intro u;rfl
  | succ k ih=>intro u;simp[dgs,ih]
theorem dgs_get:∀(k u j:Nat),j<k→(dgs u k)[j]? = some ((48+u / 10^(k-1-j) % 10:Nat):Int):=by
  intro k
  induction k with
  | zero=>intro u j h;omega
  | succ k ih =>
    intro u j h
    simp only[dgs]
    by_cases hj:j<k
    · rw[List.getElem?_append_left (by rw[dgs_len];exact hj),ih _ _ hj,Nat.div_div_eq_div_mul]
      have:k+1-1-j=k-1-j+1:=by omega
      rw[this,Nat.pow_succ,Nat.mul_comm]
    · have:j=k:=by omega
      subst this
      rw[List.getElem?_append_right (by rw[dgs_len];exact Nat.le_refl _),dgs_len]
      simp
theorem dgs_of {l:List Int} {u k:Nat} (hl:l.length=k) (h:∀j,j<k→l[j]? = some ((48+u / 10^(k-1-j) % 10:Nat):Int)):l=dgs u k:=by
  apply List.ext_getElem?
  intro j
  by_cases hj:j<k
  · rw[h j hj,dgs_get k u j hj]
  · rw[List.getElem?_eq_none (by omega),List.getElem?_eq_none (by rw[dgs_len];omega)]
theorem dgs_range:∀(k u:Nat),∀x∈dgs u k,48≤x∧x≤57:=by
  intro k
  induction k with
  | zero=>intro u x hx;cases hx
  | succ k ih =>
    intro u x hx
    simp only[dgs,List.mem_append,List.mem_singleton] at hx
    rcases hx with hx | hx
    · exact ih _ x hx
    · subst hx;omega
theorem ndF_of:∀(d f u:Nat),d<f→(0<d→10^d≤u)→u<10^(d+1)→ndF f u=d+1:=by
  intro d
  induction d with
  | zero =>
    intro f u hf _ h
    obtain ⟨g,rfl⟩:∃g,f=g+1:=⟨f-1,by omega⟩
    simp only[ndF]
    rw[if_pos (by simpa using h)]
  | succ d ih =>
    intro f u hf h1 h2
    obtain ⟨g,rfl⟩:∃g,f=g+1:=⟨f-1,by omega⟩
    have h1:=h1 (by omega)
    have hp:1≤10^d:=Nat.one_le_pow _ _ (by omega)
    have e:10^(d+1)=10*10^d:=by rw[Nat.pow_succ,Nat.mul_comm]
    have e2:10^(d+1+1)=10*10^(d+1):=by rw[Nat.pow_succ,Nat.mul_comm]
    simp only[ndF]
    rw[if_neg (by omega),ih g (u / 10) (by omega) (fun _=>by rw[Nat.le_div_iff_mul_le (by omega)];omega) (by rw[Nat.div_lt_iff_lt_mul (by omega)];omega)]
theorem ndg_of {d u:Nat} (hd:d<64) (h1:0<d→10^d≤u) (h2:u<10^(d+1)):ndg u=d+1:=ndF_of d 64 u hd h1 h2
def lgt (b:Nat):Nat:=b*78913 / 262144
theorem lgt_all:((List.range 65).all fun b=>decide (b=0)||(decide (2^b≤10^(lgt b+1))&&(decide (lgt b=0)||decide (10^(lgt b-1)≤2^(b-1)))))=true:=by decide +kernel
theorem lgt_at {b:Nat} (h:b≤64) (h0:0<b):2^b≤10^(lgt b+1)∧(0<lgt b→10^(lgt b-1)≤2^(b-1)):=by
  have:=List.all_eq_true.1 lgt_all b (List.mem_range.2 (by omega))
  simp only[Bool.or_eq_true,Bool.and_eq_true,decide_eq_true_eq] at this
  rcases this with h1 | ⟨h1,h2⟩
  · omega
  · exact ⟨h1,fun h3=>h2.resolve_left (by omega)⟩
theorem lgt_lt {b:Nat} (h:b≤64):lgt b<20:=by
  unfold lgt;omega
theorem ndg_bl {u:Nat} (h0:0<u) (h:u<18446744073709551616):ndg u=lgt (bl 64 u)+if 10^lgt (bl 64 u)≤u then 1 else 0:=by
  obtain ⟨b1,b2,b3⟩:=bl_spec 64 u h
  obtain ⟨b2,b4⟩:=b2 h0
  obtain ⟨l1,l2⟩:=lgt_at b3 b2
  have l3:=lgt_lt b3
  split
  · rename_i hle
    exact ndg_of (by omega) (fun _=>hle) (by omega)
  · rename_i hle
    have hpos:0<lgt (bl 64 u):=by
      rcases Nat.eq_zero_or_pos (lgt (bl 64 u)) with e | e
      · rw[e] at hle;simp at hle;omega
      · exact e
    have:=l2 hpos
    have e:lgt (bl 64 u)-1+1=lgt (bl 64 u):=by omega
    have:=ndg_of (d:=lgt (bl 64 u)-1) (u:=u) (by omega) (fun _=>by omega) (by rw[e];omega)
    omega
theorem ndg_small {u:Nat} (h:u<10):ndg u=1:=ndg_of (by omega) (fun h=>by omega) (by simpa using h)
theorem ndF_up:∀(f u:Nat),u<10^(f+1)→∀g,f≤g→ndF g u=ndF f u:=by
  intro f
  induction f with
  | zero=>intro u h g _;cases g with
    | zero=>rfl
    | succ g=>simp only[ndF];rw[if_pos (by simpa using h)]
  | succ f ih =>
    intro u h g hg
    obtain ⟨k,rfl⟩:∃k,g=k+1:=⟨g-1,by omega⟩
    simp only[ndF]
    split
    · rfl
    · rw[ih (u / 10) (by rw[Nat.div_lt_iff_lt_mul (by omega)];rw[Nat.pow_succ] at h;exact h) k (by omega)]
theorem ndg_step {u:Nat} (h:10≤u) (hu:u<10^63):ndg u=ndg (u / 10)+1:=by
  unfold ndg
  conv=>lhs;unfold ndF
  rw[if_neg (by omega),ndF_up 63 (u / 10) (Nat.lt_of_le_of_lt (Nat.div_le_self _ _) (Nat.lt_of_lt_of_le hu (Nat.pow_le_pow_right (by omega) (by omega)))) 64 (by omega)]
theorem decI_small {u:Nat} (h:u<10):decI u=[((48+u:Nat):Int)]:=by
  unfold decI;rw[ndg_small h];simp only[dgs,List.nil_append];rw[Nat.mod_eq_of_lt h]
theorem decI_step {u:Nat} (h:10≤u) (hu:u<10^63):decI u=decI (u / 10)++[((48+u % 10:Nat):Int)]:=by
  unfold decI;rw[ndg_step h hu];rfl
theorem ndg_le {u:Nat} (h:u<18446744073709551616):ndg u≤20:=by
  rcases Nat.eq_zero_or_pos u with e | e
  · subst e;decide
  · rw[ndg_bl e h]
    have:=lgt_lt (bl_spec 64 u h).2.2
    split<;>omega
theorem ndg_hi {u:Nat} (h:u<18446744073709551616):u<10^ndg u:=by
  rcases Nat.eq_zero_or_pos u with e | e
  · subst e;exact Nat.pow_pos (by omega)
  · obtain ⟨b1,b2,b3⟩:=bl_spec 64 u h
    obtain ⟨b2,b4⟩:=b2 e
    obtain ⟨l1,l2⟩:=lgt_at b3 b2
    rw[ndg_bl e h]
    split
    · omega
    · rename_i hle;simpa using hle
theorem ndg_pos (u:Nat):0<ndg u:=by
  unfold ndg ndF;split<;>omega
theorem decI_range (u:Nat):∀x∈decI u,48≤x∧x≤57:=dgs_range _ _
end Go.Plim

namespace Go.Plim
set_option linter.unusedVariables false
def ofN (x:Nat):Wd:=(((x / 18446744073709551616:Nat):Int),((x % 18446744073709551616:Nat):Int))
theorem mkW_nat (x:Nat):mkW (x:Int)=ofN x:=by
  unfold mkW ofN;rw[Prod.mk.injEq];constructor<;>omega
theorem wv_ofN (x:Nat):wv (ofN x)=x:=by rw[←mkW_nat,wv_mkW]
theorem ofN_ok {x:Nat} (h:x<340282366920938463463374607431768211456):WdOk (ofN x):=by rw[←mkW_nat];exact mkW_ok (by omega) (by omega)
theorem ofN_zero (x:Nat):(decide ((ofN x).1=(0:Int))&&decide ((ofN x).2=(0:Int)))=decide (x=0):=by
  rw[←Bool.decide_and]
  apply decide_eq_decide.2
  unfold ofN
  simp only
  omega
theorem or_pow {q k:Nat} (h:2^(k+1) ∣ q):q ||| 2^k=q+2^k:=by
  obtain ⟨m,rfl⟩:=h
  exact (Nat.two_pow_add_eq_or_of_lt (i:=k+1) (b:=2^k) (by rw[Nat.pow_succ];have:=Nat.two_pow_pos k;omega) m).symm
end Go.Plim

namespace Go.Plim
set_option linter.unusedVariables false
theorem bl_shift {k x s:Nat} (h:x<2^k) (hs:2^s≤x):bl k x=s+bl k (x / 2^s):=by
  have hp:=Nat.two_pow_pos s
  have h0:0<x / 2^s:=Nat.div_pos hs hp
  have h1:x / 2^s<2^k:=Nat.lt_of_le_of_lt (Nat.div_le_self _ _) h
  obtain ⟨a1,a2,a3⟩:=bl_spec k (x / 2^s) h1
  obtain ⟨b1,b2⟩:=a2 h0
  obtain ⟨c,hc⟩:∃c,bl k (x / 2^s)=c+1:=⟨bl k (x / 2^s)-1,by omega⟩
  rw[hc] at a1 b2 ⊢
  rw[Nat.add_sub_cancel] at b2
  rw[←Nat.add_assoc]
  refine bl_unique h (by omega) ?_ ?_
  · rw[Nat.pow_add,Nat.mul_comm]
    exact (Nat.le_div_iff_mul_le hp).1 b2
  · rw[Nat.add_assoc,Nat.pow_add,Nat.mul_comm]
    exact (Nat.div_lt_iff_lt_mul hp).1 a1
def byt (v j:Nat):Nat:=v / 256^j % 256
theorem byt_or {v i:Nat} (h:2^(i+1) ∣ v) (j:Nat):byt (v+2^i) j=if i / 8=j then byt v j ||| 2^(i % 8) else byt v j:=by
  unfold byt
  have e:(256:Nat)^j=2^(8*j):=by rw[Nat.pow_mul]
  rw[←or_pow h,e,Nat.or_div_two_pow,show (256:Nat)=2^8 from rfl,Nat.or_mod_two_pow]
  have e2:2^i / 2^(8*j) % 2^8=if i / 8=j then 2^(i % 8) else 0:=by
    rcases Nat.lt_or_ge i (8*j) with q | q
    · rw[Nat.div_eq_of_lt (Nat.pow_lt_pow_right (by decide) q),if_neg (by omega)]
    · rw[Nat.pow_div q (by decide)]
      split
      · rw[show i-8*j=i % 8 by omega]
        exact Nat.mod_eq_of_lt (Nat.pow_lt_pow_right (by decide) (Nat.mod_lt _ (by decide)))
      · obtain ⟨c,hc⟩:∃c,i-8*j=8+c:=⟨i-8*j-8,by omega⟩
        rw[hc,Nat.pow_add,Nat.mul_mod_right]
  rw[e2]
  split
  · rfl
  · rw[Nat.or_zero]
theorem byt_lt (v j:Nat):byt v j<256:=Nat.mod_lt _ (by decide)
theorem bit_byt (v i:Nat):byt v (i / 8) / 2^(i % 8) % 2=v / 2^i % 2:=by
  unfold byt
  have e:(256:Nat)^(i / 8)=2^(8*(i / 8)):=by rw[Nat.pow_mul]
  obtain ⟨c,hc⟩:∃c,(256:Nat)=2^(i % 8)*(2*2^c):=⟨7-i % 8,by rw[←Nat.pow_succ',←Nat.pow_add,show i % 8+(7-i % 8).succ=8 by have:=Nat.mod_lt i (show 0<8 by decide);omega]⟩
  rw[e]
  generalize hw:v / 2^(8*(i / 8))=w
  have e1:v / 2^i=w / 2^(i % 8):=by
    rw[←hw,Nat.div_div_eq_div_mul,←Nat.pow_add,show 8*(i / 8)+i % 8=i by omega]
  rw[e1]
  conv=>lhs;rw[hc]
  rw[Nat.mod_mul_right_div_self,Nat.mod_mul_right_mod]
end Go.Plim

namespace Go.Proofs.YtjionkknnajjgaaGreatDoor
open Go.Flat Go.Plim
set_option linter.unusedVariables false
set_option linter.unusedSimpArgs false
theorem shrN (x k:Nat) (hk:k≤64):shrI .u64 (x:Int) (k:Int)=((x / 2^k:Nat):Int):=by
  rw[shr_nat _ _ hk];simp
end Go.Proofs.YtjionkknnajjgaaGreatDoor
namespace Go.Proofs.YtjionkknnajjgaaGreatDoor
open Go.Flat Go.Plim
set_option linter.unusedVariables false
def lenT:List UInt8 :=
  bs_2753755
theorem len64_tree (n:Nat) (x:Int):math_bits_Len64 (n+1) x =
  tif ((decide ((4294967296:Int)≤x))) (
  tif ((decide ((65536:Int)≤(shrI .u64 x (32:Int))))) (
  tif ((decide ((256:Int)≤(shrI .u64 (shrI .u64 x (32:Int)) (16:Int))))) (
  obind (at? lenT (IntKind.wrap .u8 (shrI .u64 (shrI .u64 (shrI .u64 x (32:Int)) (16:Int)) (8:Int)))) fun r0 =>
  some (IntKind.wrap .i64 ((56:Int)+(IntKind.wrap .i64 (((UInt8.toNat r0):Nat):Int))))) (
  obind (at? lenT (IntKind.wrap .u8 (shrI .u64 (shrI .u64 x (32:Int)) (16:Int)))) fun r1 =>
  some (IntKind.wrap .i64 ((48:Int)+(IntKind.wrap .i64 (((UInt8.toNat r1):Nat):Int)))))) (
  tif ((decide ((256:Int)≤(shrI .u64 x (32:Int))))) (
  obind (at? lenT (IntKind.wrap .u8 (shrI .u64 (shrI .u64 x (32:Int)) (8:Int)))) fun r2 =>
  some (IntKind.wrap .i64 ((40:Int)+(IntKind.wrap .i64 (((UInt8.toNat r2):Nat):Int))))) (
  obind (at? lenT (IntKind.wrap .u8 (shrI .u64 x (32:Int)))) fun r3 =>
  some (IntKind.wrap .i64 ((32:Int)+(IntKind.wrap .i64 (((UInt8.toNat r3):Nat):Int))))))) (
  tif ((decide ((65536:Int)≤x))) (
  tif ((decide ((256:Int)≤(shrI .u64 x (16:Int))))) (
  obind (at? lenT (IntKind.wrap .u8 (shrI .u64 (shrI .u64 x (16:Int)) (8:Int)))) fun r4 =>
  some (IntKind.wrap .i64 ((24:Int)+(IntKind.wrap .i64 (((UInt8.toNat r4):Nat):Int))))) (
  obind (at? lenT (IntKind.wrap .u8 (shrI .u64 x (16:Int)))) fun r5 =>
  some (IntKind.wrap .i64 ((16:Int)+(IntKind.wrap .i64 (((UInt8.toNat r5):Nat):Int)))))) (
  tif ((decide ((256:Int)≤x))) (
  obind (at? lenT (IntKind.wrap .u8 (shrI .u64 x (8:Int)))) fun r6 =>
  some (IntKind.wrap .i64 ((8:Int)+(IntKind.wrap .i64 (((UInt8.toNat r6):Nat):Int))))) (
  obind (at? lenT (IntKind.wrap .u8 x)) fun r7 =>
  some (IntKind.wrap .i64 ((0:Int)+(IntKind.wrap .i64 (((UInt8.toNat r7):Nat):Int))))))):=math_bits_Len64_eq n x
theorem lenT_all:((List.range 256).all fun z=>match lenT[z]? with | some r=>decide (r.toNat=bl 64 z) | none=>false)=true:=by decide +kernel
end Go.Proofs.YtjionkknnajjgaaGreatDoor
namespace Go.Proofs.YtjionkknnajjgaaGreatDoor
open Go.Flat Go.Plim
set_option linter.unusedVariables false
set_option linter.unusedSimpArgs false
theorem lenT_at {z:Nat} (h:z<256):∃r,at? lenT (z:Int)=some r∧r.toNat=bl 64 z:=by
  have h1:=List.all_eq_true.1 lenT_all z (List.mem_range.2 h)
  split at h1
  · rename_i r hr
    refine ⟨r,?_,of_decide_eq_true h1⟩
    unfold at?
    rw[decide_eq_true (by omega)]
    exact hr
  · cases h1
theorem len_leaf {x s K:Nat} {I S:Int} (hK:K=2^s) (hI:I=((x / K:Nat):Int)) (hS:S=s) (h2:x / K<256) (h1:K≤x∨s=0) (hx:x<18446744073709551616) (hs:s≤56) :
    (obind (at? lenT (IntKind.wrap .u8 I)) fun r=>some (IntKind.wrap .i64 (S+IntKind.wrap .i64 (((UInt8.toNat r):Nat):Int))))=some ((bl 64 x:Nat):Int):=by
  obtain ⟨r,hr,hb⟩:=lenT_at h2
  have hle:=(bl_spec 64 (x / K) (Nat.lt_of_le_of_lt (Nat.div_le_self _ _) hx)).2.2
  have e:bl 64 x=s+bl 64 (x / K):=by
    rcases h1 with h1 | rfl
    · rw[hK] at h1 ⊢
      exact bl_shift hx h1
    · subst hK;simp
  rw[hI,e]
  generalize x / K=z at *
  rw[wu8 (by omega) (by omega),hr,obs,hb,w64 (x:=((bl 64 z:Nat):Int)) (by omega) (by omega),hS,w64 (by omega) (by omega)]
  congr 1
theorem len64_val (n:Nat) {x:Nat} (h:x<18446744073709551616):math_bits_Len64 (n+1) (x:Int)=some ((bl 64 x:Nat):Int):=by
  have s32:∀z:Nat,shrI .u64 (z:Int) (32:Int)=((z / 4294967296:Nat):Int):=fun z=>shrN z 32 (by decide)
  have s16:∀z:Nat,shrI .u64 (z:Int) (16:Int)=((z / 65536:Nat):Int):=fun z=>shrN z 16 (by decide)
  have s8:∀z:Nat,shrI .u64 (z:Int) (8:Int)=((z / 256:Nat):Int):=fun z=>shrN z 8 (by decide)
  have h':=h
  rw[len64_tree]
  simp only[s32,s16,s8,tfd]
  by_cases c5:4294967296≤x
  · rw[if_pos (by omega)]
    by_cases c4:65536≤x / 4294967296
    · rw[if_pos (by omega)]
      by_cases c3:256≤x / 4294967296 / 65536
      · rw[if_pos (by omega)]
        exact len_leaf (s:=56) (K:=72057594037927936) rfl (by omega) rfl (by omega) (.inl (by omega)) h (by decide)
      · rw[if_neg (by omega)]
        exact len_leaf (s:=48) (K:=281474976710656) rfl (by omega) rfl (by omega) (.inl (by omega)) h (by decide)
    · rw[if_neg (by omega)]
      by_cases c3:256≤x / 4294967296
      · rw[if_pos (by omega)]
        exact len_leaf (s:=40) (K:=1099511627776) rfl (by omega) rfl (by omega) (.inl (by omega)) h (by decide)
      · rw[if_neg (by omega)]
        exact len_leaf (s:=32) (K:=4294967296) rfl (by omega) rfl (by omega) (.inl (by omega)) h (by decide)
  · rw[if_neg (by omega)]
    by_cases c4:65536≤x
    · rw[if_pos (by omega)]
      by_cases c3:256≤x / 65536
      · rw[if_pos (by omega)]
        exact len_leaf (s:=24) (K:=16777216) rfl (by omega) rfl (by omega) (.inl (by omega)) h (by decide)
      · rw[if_neg (by omega)]
        exact len_leaf (s:=16) (K:=65536) rfl (by omega) rfl (by omega) (.inl (by omega)) h (by decide)
    · rw[if_neg (by omega)]
      by_cases c3:256≤x
      · rw[if_pos (by omega)]
        exact len_leaf (s:=8) (K:=256) rfl (by omega) rfl (by omega) (.inl (by omega)) h (by decide)
      · rw[if_neg (by omega)]
        exact len_leaf (s:=0) (K:=1) rfl (by omega) rfl (by omega) (.inr rfl) h (by decide)
theorem sm_all:((List.range 100).all fun x=>decide (at? bs_92989263 ((2*x:Nat):Int)=some (UInt8.ofNat (48+x / 10)))&&decide (at? bs_92989263 ((2*x+1:Nat):Int)=some (UInt8.ofNat (48+x % 10))))=true:=by decide +kernel
theorem wu32 {x:Nat} (h:x<4294967296):IntKind.wrap .u32 (x:Int)=x:=by
  rw[IntKind.wrap_u32];omega
theorem sm_hi {x:Nat} (h:x<100):at? bs_92989263 (IntKind.wrap .u32 ((x:Int)*(2:Int)))=some (UInt8.ofNat (48+x / 10)):=by
  have:=List.all_eq_true.1 sm_all x (List.mem_range.2 h)
  simp only[Bool.and_eq_true,decide_eq_true_eq] at this
  rw[show ((x:Int)*(2:Int))=((2*x:Nat):Int) by omega,wu32 (by omega)]
  exact this.1
theorem sm_lo {x:Nat} (h:x<100):at? bs_92989263 (IntKind.wrap .u32 ((IntKind.wrap .u32 ((x:Int)*(2:Int)))+(1:Int)))=some (UInt8.ofNat (48+x % 10)):=by
  have:=List.all_eq_true.1 sm_all x (List.mem_range.2 h)
  simp only[Bool.and_eq_true,decide_eq_true_eq] at this
  rw[show ((x:Int)*(2:Int))=((2*x:Nat):Int) by omega,wu32 (by omega),show ((2*x:Nat):Int)+1=((2*x+1:Nat):Int) by omega,wu32 (by omega)]
  exact this.2
theorem u8d {d:Nat} (h:d<10):((UInt8.toNat (UInt8.ofNat (48+d)):Nat):Int)=((48+d:Nat):Int):=by
  rw[UInt8.toNat_ofNat',Nat.mod_eq_of_lt (by simp;omega)]
theorem obind_const {α β:Type} {o:Option α} (h:∃y,o=some y) (z:Option β):(obind o fun _=>z)=z:=by
  obtain ⟨y,rfl⟩:=h;rfl
theorem at_tk {X:List Int} {len i:Nat} (h:i<len) (hX:len≤X.length):∃y,at? (List.take len (List.drop 0 X)) (i:Int)=some y:=by
  refine ⟨X[i]'(by omega),?_⟩
  unfold at?
  simp only[Int.natCast_nonneg,decide_true,cond_true,Int.toNat_natCast,List.drop_zero,List.getElem?_take,if_pos h]
  exact List.getElem?_eq_getElem (by omega)
theorem gi_tk {X:List Int} {i:Nat} (h:i<X.length):∃y,X[0+i]? = some y:=⟨X[i],by rw[Nat.zero_add];exact List.getElem?_eq_getElem h⟩
theorem tm100 (a:Nat):Int.tmod (a:Int) (100:Int)=((a % 100:Nat):Int):=by rw[tmod_nn (by omega)];omega
theorem tm10000 (a:Nat):Int.tmod (a:Int) (10000:Int)=((a % 10000:Nat):Int):=by rw[tmod_nn (by omega)];omega
theorem tm8 (a:Nat):Int.tmod (a:Int) (100000000:Int)=((a % 100000000:Nat):Int):=by rw[tmod_nn (by omega)];omega
theorem td100 (a:Nat):Int.tdiv (a:Int) (100:Int)=((a / 100:Nat):Int):=by rw[tdiv_nn (by omega)];omega
theorem td10000 (a:Nat):Int.tdiv (a:Int) (10000:Int)=((a / 10000:Nat):Int):=by rw[tdiv_nn (by omega)];omega
theorem td8 (a:Nat):Int.tdiv (a:Int) (100000000:Int)=((a / 100000000:Nat):Int):=by rw[tdiv_nn (by omega)];omega
theorem sub64 {k c:Nat} {z:Int} (hz:z=(c:Int)) (h:c≤k) (hk:k<1000):IntKind.wrap .i64 ((k:Int)-z)=((k-c:Nat):Int):=by
  subst hz
  rw[w64 (by omega) (by omega)];omega
theorem dig_at (U:Nat) {len k i:Nat} (hk:k≤len) (hi:i<k):U / 10^(len-1-(k-1-i))=U / 10^(len-k) / 10^i:=by
  rw[Nat.div_div_eq_div_mul,←Nat.pow_add]
  congr 2;omega
theorem dig_eq {a b:Nat} (h:a=b):(some ((48+a:Nat):Int))=some ((48+b:Nat):Int):=by rw[h]
theorem fb_l1 (n:Nat) {U len:Nat} (hlen:len≤24) (hU:U<18446744073709551616):∀(m f k:Nat) (L:List Int),k / 8=m→m<f→k≤len→len≤L.length →
    (∀j,k≤j→j<len→L[j]? = some ((48+U / 10^(len-1-j) % 10:Nat):Int)) →
    ∃L',strconv_formatBase10_l1 n f ((L,(0,len)),(((U / 10^(len-k):Nat):Int),((k:Int),())))=some (.inl ((L',(0,len)),(((U / 10^(len-k % 8):Nat):Int),(((k % 8:Nat):Int),())))) ∧
      L'.length=L.length∧∀j,k % 8≤j→j<len→L'[j]? = some ((48+U / 10^(len-1-j) % 10:Nat):Int):=by
  intro m
  induction m with
  | zero =>
    intro f k L hm hf hk hL hfill
    obtain ⟨g,rfl⟩:∃g,f=g+1:=⟨f-1,by omega⟩
    refine ⟨L,?_,rfl,?_⟩
    · rw[strconv_formatBase10_l1_eq]
      simp only[tfd]
      rw[if_neg (by omega),show k % 8=k by omega]
    · rw[show k % 8=k by omega];exact hfill
  | succ m ih =>
    intro f k L hm hf hk hL hfill
    obtain ⟨g,rfl⟩:∃g,f=g+1:=⟨f-1,by omega⟩
    have hk8:8≤k:=by omega
    have hv:U / 10^(len-k)<18446744073709551616:=Nat.lt_of_le_of_lt (Nat.div_le_self _ _) hU
    have hnext:U / 10^(len-(k-8))=U / 10^(len-k) / 100000000:=by
      rw[Nat.div_div_eq_div_mul,show len-(k-8)=len-k+8 by omega,Nat.pow_add]
    have hdig:∀i,i<k→U / 10^(len-1-(k-1-i))=U / 10^(len-k) / 10^i:=fun i hi=>dig_at U hk hi
    have IH:=fun L=>ih g (k-8) L (by omega) (by omega) (by omega)
    rw[hnext] at IH
    generalize hvv:U / 10^(len-k)=v at *
    rw[strconv_formatBase10_l1_eq]
    simp only[tfd]
    rw[if_pos (by omega)]
    have e1:IntKind.wrap .u32 (Int.tmod (v:Int) (100000000:Int))=((v % 100000000:Nat):Int):=by rw[tm8,wu32 (by omega)]
    rw[e1]
    generalize hx:v % 100000000=x
    have hx8:x<100000000:=by omega
    have e2:IntKind.wrap .u32 (Int.tdiv (x:Int) (10000:Int))=((x / 10000:Nat):Int):=by rw[td10000,wu32 (by omega)]
    rw[tm10000,e2]
    generalize hx10:x % 10000=x10
    generalize hx32:x / 10000=x32
    have e3:IntKind.wrap .u32 (Int.tdiv (x10:Int) (100:Int))=((x10 / 100:Nat):Int):=by rw[td100,wu32 (by omega)]
    have e4:IntKind.wrap .u32 (Int.tdiv (x32:Int) (100:Int))=((x32 / 100:Nat):Int):=by rw[td100,wu32 (by omega)]
    rw[e3,e4,tm100,tm100,td8,wu64 (x:=((v / 100000000:Nat):Int)) (by omega) (by omega)]
    have w1:=sub64 (k:=k) (c:=1) (z:=1) rfl (by omega) (by omega)
    have w2:=sub64 (k:=k) (c:=2) (z:=2) rfl (by omega) (by omega)
    have w3:=sub64 (k:=k) (c:=3) (z:=3) rfl (by omega) (by omega)
    have w4:=sub64 (k:=k) (c:=4) (z:=4) rfl (by omega) (by omega)
    have w5:=sub64 (k:=k) (c:=5) (z:=5) rfl (by omega) (by omega)
    have w6:=sub64 (k:=k) (c:=6) (z:=6) rfl (by omega) (by omega)
    have w7:=sub64 (k:=k) (c:=7) (z:=7) rfl (by omega) (by omega)
    have w8:=sub64 (k:=k) (c:=8) (z:=8) rfl (by omega) (by omega)
    simp only[w1,w2,w3,w4,w5,w6,w7,w8,Int.toNat_natCast]
    rw[obind_of (sm_lo (x:=x10 % 100) (by omega)),obind_of (sm_hi (x:=x10 % 100) (by omega))]
    rw[obind_const (at_tk (by omega) (by first | omega | (simp only[List.length_set];omega))),obind_const (gi_tk (by first | omega | (simp only[List.length_set];omega)))]
    rw[obind_const (at_tk (by omega) (by first | omega | (simp only[List.length_set];omega))),obind_const (gi_tk (by first | omega | (simp only[List.length_set];omega)))]
    rw[obind_of (sm_lo (x:=x10 / 100) (by omega)),obind_of (sm_hi (x:=x10 / 100) (by omega))]
    rw[obind_const (at_tk (by omega) (by first | omega | (simp only[List.length_set];omega))),obind_const (gi_tk (by first | omega | (simp only[List.length_set];omega)))]
    rw[obind_const (at_tk (by omega) (by first | omega | (simp only[List.length_set];omega))),obind_const (gi_tk (by first | omega | (simp only[List.length_set];omega)))]
    rw[obind_of (sm_lo (x:=x32 % 100) (by omega)),obind_of (sm_hi (x:=x32 % 100) (by omega))]
    rw[obind_const (at_tk (by omega) (by first | omega | (simp only[List.length_set];omega))),obind_const (gi_tk (by first | omega | (simp only[List.length_set];omega)))]
    rw[obind_const (at_tk (by omega) (by first | omega | (simp only[List.length_set];omega))),obind_const (gi_tk (by first | omega | (simp only[List.length_set];omega)))]
    rw[obind_of (sm_lo (x:=x32 / 100) (by omega)),obind_of (sm_hi (x:=x32 / 100) (by omega))]
    rw[obind_const (at_tk (by omega) (by first | omega | (simp only[List.length_set];omega))),obind_const (gi_tk (by first | omega | (simp only[List.length_set];omega)))]
    rw[obind_const (at_tk (by omega) (by first | omega | (simp only[List.length_set];omega))),obind_const (gi_tk (by first | omega | (simp only[List.length_set];omega)))]
    simp only[Nat.zero_add]
    rw[u8d (d:=x10 % 100 % 10) (by omega),u8d (d:=x10 % 100 / 10) (by omega),u8d (d:=x10 / 100 % 10) (by omega),u8d (d:=x10 / 100 / 10) (by omega),u8d (d:=x32 % 100 % 10) (by omega),u8d (d:=x32 % 100 / 10) (by omega),u8d (d:=x32 / 100 % 10) (by omega),u8d (d:=x32 / 100 / 10) (by omega)]
    obtain ⟨L',h1,h2,h3⟩:=IH ((((((((L.set (k-1) ((48+x10 % 100 % 10:Nat):Int)).set (k-2) ((48+x10 % 100 / 10:Nat):Int)).set (k-3) ((48+x10 / 100 % 10:Nat):Int)).set (k-4) ((48+x10 / 100 / 10:Nat):Int)).set (k-5) ((48+x32 % 100 % 10:Nat):Int)).set (k-6) ((48+x32 % 100 / 10:Nat):Int)).set (k-7) ((48+x32 / 100 % 10:Nat):Int)).set (k-8) ((48+x32 / 100 / 10:Nat):Int)) (by simp only[List.length_set];exact hL) (fun j hj hj2=>by
      by_cases hjk:k≤j
      · repeat rw[List.getElem?_set_ne (by omega)]
        exact hfill j hjk hj2
      · have hc:j=k-1∨j=k-2∨j=k-3∨j=k-4∨j=k-5∨j=k-6∨j=k-7∨j=k-8:=by omega
        rcases hc with hc | hc | hc | hc | hc | hc | hc | hc
        · rw[hc,show U / 10^(len-1-(k-1))=v / 10^0 by have:=hdig 0 (by omega);rwa [show k-1-0=k-1 by omega] at this,List.getElem?_set_ne (by omega),List.getElem?_set_ne (by omega),List.getElem?_set_ne (by omega),List.getElem?_set_ne (by omega),List.getElem?_set_ne (by omega),List.getElem?_set_ne (by omega),List.getElem?_set_ne (by omega),List.getElem?_set_self (by first | omega | (simp only[List.length_set];omega))]
          congr 2;simp only[Nat.reducePow];omega
        · rw[hc,show U / 10^(len-1-(k-2))=v / 10^1 by have:=hdig 1 (by omega);rwa [show k-1-1=k-2 by omega] at this,List.getElem?_set_ne (by omega),List.getElem?_set_ne (by omega),List.getElem?_set_ne (by omega),List.getElem?_set_ne (by omega),List.getElem?_set_ne (by omega),List.getElem?_set_ne (by omega),List.getElem?_set_self (by first | omega | (simp only[List.length_set];omega))]
          congr 2;simp only[Nat.reducePow];omega
        · rw[hc,show U / 10^(len-1-(k-3))=v / 10^2 by have:=hdig 2 (by omega);rwa [show k-1-2=k-3 by omega] at this,List.getElem?_set_ne (by omega),List.getElem?_set_ne (by omega),List.getElem?_set_ne (by omega),List.getElem?_set_ne (by omega),List.getElem?_set_ne (by omega),List.getElem?_set_self (by first | omega | (simp only[List.length_set];omega))]
          congr 2;simp only[Nat.reducePow];omega
        · rw[hc,show U / 10^(len-1-(k-4))=v / 10^3 by have:=hdig 3 (by omega);rwa [show k-1-3=k-4 by omega] at this,List.getElem?_set_ne (by omega),List.getElem?_set_ne (by omega),List.getElem?_set_ne (by omega),List.getElem?_set_ne (by omega),List.getElem?_set_self (by first | omega | (simp only[List.length_set];omega))]
          congr 2;simp only[Nat.reducePow];omega
        · rw[hc,show U / 10^(len-1-(k-5))=v / 10^4 by have:=hdig 4 (by omega);rwa [show k-1-4=k-5 by omega] at this,List.getElem?_set_ne (by omega),List.getElem?_set_ne (by omega),List.getElem?_set_ne (by omega),List.getElem?_set_self (by first | omega | (simp only[List.length_set];omega))]
          congr 2;simp only[Nat.reducePow];omega
        · rw[hc,show U / 10^(len-1-(k-6))=v / 10^5 by have:=hdig 5 (by omega);rwa [show k-1-5=k-6 by omega] at this,List.getElem?_set_ne (by omega),List.getElem?_set_ne (by omega),List.getElem?_set_self (by first | omega | (simp only[List.length_set];omega))]
          congr 2;simp only[Nat.reducePow];omega
        · rw[hc,show U / 10^(len-1-(k-7))=v / 10^6 by have:=hdig 6 (by omega);rwa [show k-1-6=k-7 by omega] at this,List.getElem?_set_ne (by omega),List.getElem?_set_self (by first | omega | (simp only[List.length_set];omega))]
          congr 2;simp only[Nat.reducePow];omega
        · rw[hc,show U / 10^(len-1-(k-8))=v / 10^7 by have:=hdig 7 (by omega);rwa [show k-1-7=k-8 by omega] at this,List.getElem?_set_self (by first | omega | (simp only[List.length_set];omega))]
          congr 2;simp only[Nat.reducePow];omega)
    refine ⟨L',?_,by rw[h2];simp only[List.length_set],?_⟩
    · rw[show k % 8=(k-8) % 8 by omega];exact h1
    · rw[show k % 8=(k-8) % 8 by omega];exact h3
theorem zero_ofN:((0,0):Wd)=ofN 0:=rfl
def bys (x:Nat):List Int:=(List.range 16).map fun j=>((byt x j:Nat):Int)
theorem bys_len (x:Nat):(bys x).length=16:=by simp[bys]
theorem bys_at (x:Nat) {j:Nat} (h:j<16):(bys x)[j]? = some ((byt x j:Nat):Int):=by
  unfold bys;rw[List.getElem?_map,List.getElem?_range h];rfl
theorem bys_eq (x:Nat):bys x=[((x % 256:Nat):Int),((x / 256 % 256:Nat):Int),((x / 65536 % 256:Nat):Int),((x / 16777216 % 256:Nat):Int),((x / 4294967296 % 256:Nat):Int),((x / 1099511627776 % 256:Nat):Int),((x / 281474976710656 % 256:Nat):Int),((x / 72057594037927936 % 256:Nat):Int),
    ((x / 18446744073709551616 % 256:Nat):Int),((x / 4722366482869645213696 % 256:Nat):Int),((x / 1208925819614629174706176 % 256:Nat):Int),((x / 309485009821345068724781056 % 256:Nat):Int),((x / 79228162514264337593543950336 % 256:Nat):Int),((x / 20282409603651670423947251286016 % 256:Nat):Int),((x / 5192296858534827628530496329220096 % 256:Nat):Int),((x / 1329227995784915872903807060280344576 % 256:Nat):Int)]:=by
  unfold bys byt
  simp[List.range,List.range.loop]
abbrev l16 (r:B16):List Int:=[r.1,r.2.1,r.2.2.1,r.2.2.2.1,r.2.2.2.2.1,r.2.2.2.2.2.1,r.2.2.2.2.2.2.1,r.2.2.2.2.2.2.2.1,r.2.2.2.2.2.2.2.2.1,r.2.2.2.2.2.2.2.2.2.1,r.2.2.2.2.2.2.2.2.2.2.1,r.2.2.2.2.2.2.2.2.2.2.2.1,r.2.2.2.2.2.2.2.2.2.2.2.2.1,r.2.2.2.2.2.2.2.2.2.2.2.2.2.1,r.2.2.2.2.2.2.2.2.2.2.2.2.2.2.1,r.2.2.2.2.2.2.2.2.2.2.2.2.2.2.2]
theorem bys_list (x:Nat):bys x=[((byt x 0:Nat):Int),((byt x 1:Nat):Int),((byt x 2:Nat):Int),((byt x 3:Nat):Int),((byt x 4:Nat):Int),((byt x 5:Nat):Int),((byt x 6:Nat):Int),((byt x 7:Nat):Int),((byt x 8:Nat):Int),((byt x 9:Nat):Int),((byt x 10:Nat):Int),((byt x 11:Nat):Int),((byt x 12:Nat):Int),((byt x 13:Nat):Int),((byt x 14:Nat):Int),((byt x 15:Nat):Int)]:=by
  unfold bys
  simp[List.range,List.range.loop]
theorem digits8 {v x0 x1 x2 x3 x4 x5 x6 x7:Int} (b:Byt x0∧Byt x1∧Byt x2∧Byt x3∧Byt x4∧Byt x5∧Byt x6∧Byt x7) (h:v=x0+x1*256+x2*65536+x3*16777216+x4*4294967296+x5*1099511627776+x6*281474976710656+x7*72057594037927936) :
    x0=v % 256∧x1=v / 256 % 256∧x2=v / 65536 % 256∧x3=v / 16777216 % 256∧x4=v / 4294967296 % 256∧x5=v / 1099511627776 % 256∧x6=v / 281474976710656 % 256∧x7=v / 72057594037927936 % 256:=by
  simp only[Byt] at b
  obtain ⟨⟨_,_⟩,⟨_,_⟩,⟨_,_⟩,⟨_,_⟩,⟨_,_⟩,⟨_,_⟩,⟨_,_⟩,⟨_,_⟩⟩:=b
  refine ⟨?_,?_,?_,?_,?_,?_,?_,?_⟩<;>omega
theorem r01_bytesN (n:Nat) {x:Nat} (h:x<340282366920938463463374607431768211456):∃r:B16,r01_Bytes (n+1) (ofN x)=some r∧l16 r=bys x:=by
  obtain ⟨x0,x1,x2,x3,x4,x5,x6,x7,x8,x9,x10,x11,x12,x13,x14,x15,hr,⟨b0,b1,b2,b3,b4,b5,b6,b7,b8,b9,b10,b11,b12,b13,b14,b15⟩,hlo,hhi⟩:=r01_bytes n (ofN_ok h)
  refine ⟨_,hr,?_⟩
  obtain ⟨c0,c1,c2,c3,c4,c5,c6,c7⟩:=digits8 ⟨b0,b1,b2,b3,b4,b5,b6,b7⟩ hlo
  obtain ⟨d0,d1,d2,d3,d4,d5,d6,d7⟩:=digits8 ⟨b8,b9,b10,b11,b12,b13,b14,b15⟩ hhi
  have elo:(ofN x).2=((x % 18446744073709551616:Nat):Int):=rfl
  have ehi:(ofN x).1=((x / 18446744073709551616:Nat):Int):=rfl
  rw[elo] at c0 c1 c2 c3 c4 c5 c6 c7
  rw[ehi] at d0 d1 d2 d3 d4 d5 d6 d7
  rw[bys_eq]
  simp only[l16]
  clear hr hlo hhi b0 b1 b2 b3 b4 b5 b6 b7 b8 b9 b10 b11 b12 b13 b14 b15
  subst c0 c1 c2 c3 c4 c5 c6 c7 d0 d1 d2 d3 d4 d5 d6 d7
  simp only[List.cons.injEq,and_true]
  refine ⟨?_,?_,?_,?_,?_,?_,?_,?_,?_,?_,?_,?_,?_,?_,?_,?_⟩
  all_goals omega
theorem r01_ofN (n:Nat) {x:Nat} (h:x<340282366920938463463374607431768211456):r01_Of (n+1) (((byt x 0:Nat):Int),((byt x 1:Nat):Int),((byt x 2:Nat):Int),((byt x 3:Nat):Int),((byt x 4:Nat):Int),((byt x 5:Nat):Int),((byt x 6:Nat):Int),((byt x 7:Nat):Int),((byt x 8:Nat):Int),((byt x 9:Nat):Int),((byt x 10:Nat):Int),((byt x 11:Nat):Int),((byt x 12:Nat):Int),((byt x 13:Nat):Int),((byt x 14:Nat):Int),((byt x 15:Nat):Int))=some (ofN x):=by
  obtain ⟨r,hr,hl⟩:=r01_bytesN n h
  obtain ⟨x0,x1,x2,x3,x4,x5,x6,x7,x8,x9,x10,x11,x12,x13,x14,x15,hr',hb,hlo,hhi⟩:=r01_bytes n (ofN_ok h)
  have hr':=Option.some.inj (hr.symm.trans hr')
  subst hr'
  rw[bys_list] at hl
  simp only[l16,List.cons.injEq,and_true] at hl
  obtain ⟨rfl,rfl,rfl,rfl,rfl,rfl,rfl,rfl,rfl,rfl,rfl,rfl,rfl,rfl,rfl,rfl⟩:=hl
  obtain ⟨b0,b1,b2,b3,b4,b5,b6,b7,b8,b9,b10,b11,b12,b13,b14,b15⟩:=hb
  rw[r01_of n b0 b1 b2 b3 b4 b5 b6 b7 b8 b9 b10 b11 b12 b13 b14 b15,←hlo,←hhi]
theorem r01_ofL (n:Nat) {x:Nat} (h:x<340282366920938463463374607431768211456) {R:Type} (k:Wd→Option R) {l:List Int} (hl:l=bys x) :
    (obind (l[0]?) fun r0=>obind (l[1]?) fun r1=>obind (l[2]?) fun r2=>obind (l[3]?) fun r3=>obind (l[4]?) fun r4=>obind (l[5]?) fun r5=>obind (l[6]?) fun r6=>obind (l[7]?) fun r7=>obind (l[8]?) fun r8=>obind (l[9]?) fun r9=>obind (l[10]?) fun r10=>obind (l[11]?) fun r11=>obind (l[12]?) fun r12=>obind (l[13]?) fun r13=>obind (l[14]?) fun r14=>obind (l[15]?) fun r15=>obind (r01_Of (n+1) (r0,(r1,(r2,(r3,(r4,(r5,(r6,(r7,(r8,(r9,(r10,(r11,(r12,(r13,(r14,r15)))))))))))))))) k)=k (ofN x):=by
  subst hl
  have e:∀j:Nat,j<16→(bys x)[j]? = some ((byt x j:Nat):Int):=fun j hj=>bys_at x hj
  rw[e 0 (by decide),e 1 (by decide),e 2 (by decide),e 3 (by decide),e 4 (by decide),e 5 (by decide),e 6 (by decide),e 7 (by decide),e 8 (by decide),e 9 (by decide),e 10 (by decide),e 11 (by decide),e 12 (by decide),e 13 (by decide),e 14 (by decide),e 15 (by decide)]
  simp only[obs,r01_ofN n h]
theorem r01_addN (n:Nat) {x y:Nat} (hx:x<340282366920938463463374607431768211456) (hy:y<340282366920938463463374607431768211456):r01_Add (n+2) (ofN x) (ofN y)=some (if x+y<340282366920938463463374607431768211456 then (ofN (x+y),0) else ((0,0),1)):=by
  rw[r01_add n (ofN_ok hx) (ofN_ok hy)]
  unfold addW
  rw[wv_ofN,wv_ofN]
  have e:(x:Int)+y=((x+y:Nat):Int):=by omega
  rw[e,mkW_nat]
  by_cases h:x+y<340282366920938463463374607431768211456
  · rw[if_pos h,if_pos (by omega)]
  · rw[if_neg h,if_neg (by omega)]
theorem r01_lessN (n:Nat) {x y:Nat} (hx:x<340282366920938463463374607431768211456) (hy:y<340282366920938463463374607431768211456):r01_Less (n+2) (ofN x) (ofN y)=some (decide (x<y)):=by
  rw[r01_less n (ofN_ok hx) (ofN_ok hy),wv_ofN,wv_ofN]
  congr 1
  exact decide_eq_decide.2 (by omega)
def subL (A B i:Nat):List Int:=(List.range 16).map fun j=>(((if j<i then byt (A-B) j else byt A j):Nat):Int)
def owe (A B i:Nat):Nat:=if A % 256^i<B % 256^i then 1 else 0
theorem subL_len (A B i:Nat):(subL A B i).length=16:=by simp[subL]
theorem subL_at (A B i:Nat) {j:Nat} (h:j<16):(subL A B i)[j]? = some (((if j<i then byt (A-B) j else byt A j):Nat):Int):=by
  unfold subL;rw[List.getElem?_map,List.getElem?_range h];rfl
theorem subL_set (A B:Nat) {i:Nat} (h:i<16):(subL A B i).set i ((byt (A-B) i:Nat):Int)=subL A B (i+1):=by
  apply List.ext_getElem?
  intro j
  rw[List.getElem?_set,subL_len]
  by_cases hj:j<16
  · rw[subL_at _ _ _ hj,subL_at _ _ _ hj]
    by_cases e:i=j
    · subst e;rw[if_pos rfl,if_pos h,if_pos (by omega)]
    · rw[if_neg e]
      by_cases hlt:j<i
      · rw[if_pos hlt,if_pos (by omega)]
      · rw[if_neg hlt,if_neg (by omega)]
  · rw[if_neg (by omega),List.getElem?_eq_none (by rw[subL_len];omega),List.getElem?_eq_none (by rw[subL_len];omega)]
theorem owe_step {A B:Nat} (hle:B≤A) (i:Nat) :
    (byt A i<byt B i+owe A B i→owe A B (i+1)=1∧byt (A-B) i+byt B i+owe A B i=byt A i+256) ∧
    (byt B i+owe A B i≤byt A i→owe A B (i+1)=0∧byt (A-B) i+byt B i+owe A B i=byt A i):=by
  have hp:0<256^i:=Nat.pow_pos (by decide)
  have ea:=Nat.div_add_mod A (256^i)
  have eb:=Nat.div_add_mod B (256^i)
  have la:=Nat.mod_lt A hp
  have lb:=Nat.mod_lt B hp
  have ea2:A % 256^(i+1)=256^i*(A / 256^i % 256)+A % 256^i:=by rw[Nat.pow_succ,Nat.mod_mul];omega
  have eb2:B % 256^(i+1)=256^i*(B / 256^i % 256)+B % 256^i:=by rw[Nat.pow_succ,Nat.mod_mul];omega
  unfold owe byt
  rw[ea2,eb2]
  generalize hP:256^i=P at *
  generalize hA':A / P=A' at *
  generalize hB':B / P=B' at *
  generalize ha:A % P=a at *
  generalize hb:B % P=b at *
  have key:(A-B) / P+B'+(if a<b then 1 else 0)=A':=by
    by_cases hlt:a<b
    · rw[if_pos hlt]
      have hAB:B'+1≤A':=by
        rcases Nat.lt_or_ge B' A' with q | q
        · exact q
        · have:=Nat.mul_le_mul_left P q;omega
      obtain ⟨c,hc⟩:∃c,A'=B'+1+c:=⟨A'-(B'+1),by omega⟩
      have e1:P*A'=P*B'+P+P*c:=by rw[hc,Nat.mul_add,Nat.mul_add,Nat.mul_one]
      have e2:A-B=P*c+(P+a-b):=by omega
      rw[e2,Nat.mul_add_div hp,Nat.div_eq_of_lt (by omega)]
      omega
    · rw[if_neg hlt]
      have hAB:B'≤A':=by
        rcases Nat.lt_or_ge A' B' with q | q
        · have:=Nat.mul_le_mul_left P q
          rw[Nat.mul_succ] at this
          omega
        · exact q
      obtain ⟨c,hc⟩:∃c,A'=B'+c:=⟨A'-B',by omega⟩
      have e1:P*A'=P*B'+P*c:=by rw[hc,Nat.mul_add]
      have e2:A-B=P*c+(a-b):=by omega
      rw[e2,Nat.mul_add_div hp,Nat.div_eq_of_lt (by omega)]
      omega
  generalize (A-B) / P=D at *
  have cmp:(P*(A' % 256)+a<P*(B' % 256)+b)↔(A' % 256<B' % 256∨A' % 256=B' % 256∧a<b):=by
    rcases Nat.lt_trichotomy (A' % 256) (B' % 256) with q | q | q
    · have:=Nat.mul_le_mul_left P q
      rw[Nat.mul_succ] at this
      constructor
      · intro _;exact .inl q
      · intro _;omega
    · rw[q];constructor
      · intro h;exact .inr ⟨rfl,by omega⟩
      · rintro (h | ⟨_,h⟩)<;>omega
    · have:=Nat.mul_le_mul_left P q
      rw[Nat.mul_succ] at this
      constructor
      · intro h;omega
      · rintro (h | ⟨h,_⟩)<;>omega
  by_cases hab:a<b
  · simp only[if_pos hab] at key ⊢
    constructor
    · intro h
      rw[if_pos (cmp.2 (by omega))]
      exact ⟨rfl,by omega⟩
    · intro h
      rw[if_neg (fun q=>by have:=cmp.1 q;omega)]
      exact ⟨rfl,by omega⟩
  · simp only[if_neg hab] at key ⊢
    constructor
    · intro h
      rw[if_pos (cmp.2 (by omega))]
      exact ⟨rfl,by omega⟩
    · intro h
      rw[if_neg (fun q=>by have:=cmp.1 q;omega)]
      exact ⟨rfl,by omega⟩
theorem r01_sub_l6 (n:Nat) {A B:Nat} (hle:B≤A) (s4:Wd):∀(k f i:Nat),i+k=16→k<f →
    r01_Sub_l6 n f (s4,subL A B i,bys B,((owe A B i:Nat):Int),(i:Int),())=some (.inl (s4,bys (A-B),())):=by
  intro k
  induction k with
  | zero =>
    intro f i hi hf
    obtain ⟨f,rfl⟩:∃g,f=g+1:=⟨f-1,by omega⟩
    have:i=16:=by omega
    subst this
    rw[r01_Sub_l6_eq,decide_eq_false (by decide),tff]
    congr 3
  | succ k ih =>
    intro f i hi hf
    obtain ⟨f,rfl⟩:∃g,f=g+1:=⟨f-1,by omega⟩
    have hlt:i<16:=by omega
    have g1:=byt_lt A i
    have g2:=byt_lt B i
    have g3:=byt_lt (A-B) i
    have g4:owe A B i≤1:=by unfold owe;split<;>omega
    obtain ⟨s1,s2⟩:=owe_step hle i
    have next:=ih f (i+1) (by omega) (by omega)
    rw[r01_Sub_l6_eq,subL_len,bys_len,Int.toNat_natCast,subL_at _ _ _ hlt,bys_at _ hlt,if_neg (Nat.lt_irrefl i)]
    simp only[decide_eq_true (show (i:Int)<16 by omega),decide_eq_true (show (0:Int)≤(i:Int) by omega),decide_eq_true (show (i:Int)<((16:Nat):Int) by omega),Bool.and_self,tft,obs]
    rw[w64 (x:=((byt A i:Nat):Int)-((byt B i:Nat):Int)) (by omega) (by omega),w64 (x:=((byt A i:Nat):Int)-((byt B i:Nat):Int)-((owe A B i:Nat):Int)) (by omega) (by omega),w64 (x:=(i:Int)+1) (by omega) (by omega),tfd]
    by_cases h:byt A i<byt B i+owe A B i
    · obtain ⟨t1,t2⟩:=s1 h
      rw[t1] at next
      rw[if_pos (by omega),w64 (by omega) (by omega),show ((byt A i:Nat):Int)-((byt B i:Nat):Int)-((owe A B i:Nat):Int)+256=((byt (A-B) i:Nat):Int) by omega,subL_set _ _ hlt]
      exact next
    · obtain ⟨t1,t2⟩:=s2 (by omega)
      rw[t1] at next
      rw[if_neg (by omega),show ((byt A i:Nat):Int)-((byt B i:Nat):Int)-((owe A B i:Nat):Int)=((byt (A-B) i:Nat):Int) by omega,subL_set _ _ hlt]
      exact next
theorem r01_subN (n:Nat) {A B:Nat} (hA:A<340282366920938463463374607431768211456) (hle:B≤A):r01_Sub (n+3) (ofN A) (ofN B)=some (ofN (A-B),0):=by
  obtain ⟨ra,ha,hla⟩:=r01_bytesN (n+1) hA
  obtain ⟨rb,hb,hlb⟩:=r01_bytesN (n+1) (Nat.lt_of_le_of_lt hle hA)
  rw[r01_Sub_eq,r01_lessN n hA (Nat.lt_of_le_of_lt hle hA),obs,decide_eq_false (by omega),tff,ha,obs,hb,obs]
  rw[show (decide (16=((((((((((((((((1+1)+1)+1)+1)+1)+1)+1)+1)+1)+1)+1)+1)+1)+1)+1) / 1)))=true from rfl,tft,tft]
  have e0:subL A B 0=bys A:=by unfold subL bys;apply List.map_congr_left;intro j _;rw[if_neg (Nat.not_lt_zero j)]
  have:=r01_sub_l6 (n+2) hle (0,0) 16 loopFuel 0 rfl (by decide)
  rw[e0,show owe A B 0=0 by unfold owe;simp[Nat.mod_one],←hla,←hlb] at this
  change obind (r01_Sub_l6 (n+2) loopFuel ((0,0),l16 ra,l16 rb,((0:Nat):Int),((0:Nat):Int),())) _=_
  rw[this,obs,selim_inl]
  exact r01_ofL (n+1) (Nat.lt_of_le_of_lt (Nat.sub_le _ _) hA) (fun r=>some (r,0)) rfl
theorem lo_ofN {b:Nat} (h:b<18446744073709551616):(((0:Int),(b:Int)):Wd)=ofN b:=by
  unfold ofN
  rw[Nat.div_eq_of_lt h,Nat.mod_eq_of_lt h];rfl
theorem shr64 (v k:Nat) (hk:k≤64):shrI .i64 (v:Int) (k:Int)=((v / 2^k:Nat):Int):=shrN v k hk
theorem and1 {v:Nat} (h:v<256):andI .i64 (v:Int) (1:Int)=((v % 2:Nat):Int):=by
  unfold andI
  have e2:(BitVec.ofInt IntKind.i64.bits (v:Int) &&& BitVec.ofInt IntKind.i64.bits (1:Int)).toNat=v % 2:=by
    show (BitVec.ofInt 64 (v:Int) &&& BitVec.ofInt 64 ((1:Nat):Int)).toNat=_
    rw[BitVec.toNat_and,BitVec.ofInt_natCast,BitVec.ofInt_natCast,BitVec.toNat_ofNat,BitVec.toNat_ofNat,Nat.mod_eq_of_lt (by omega),Nat.mod_eq_of_lt (by omega)]
    exact Nat.and_one_is_mod v
  rw[e2]
  exact w64 (by omega) (by omega)
theorem orbit {v j:Nat} (h:v<256) (hj:j<8):orI .i64 (v:Int) (shlI .i64 (1:Int) (j:Int))=((v ||| 2^j:Nat):Int):=by
  have hp:2^j<256:=Nat.lt_of_lt_of_le (Nat.pow_lt_pow_right (a:=2) (n:=8) (by decide) hj) (by decide)
  have e1:shlI .i64 (1:Int) (j:Int)=((2^j:Nat):Int):=by
    show IntKind.wrap .i64 ((1:Int)*2^(min (j:Int).toNat 64))=_
    rw[show min (j:Int).toNat 64=j by omega,Int.one_mul]
    have:(2:Int)^j=((2^j:Nat):Int):=by simp
    rw[this]
    generalize 2^j=p at hp
    exact w64 (by omega) (by omega)
  rw[e1]
  unfold orI
  have e2:(BitVec.ofInt IntKind.i64.bits (v:Int) ||| BitVec.ofInt IntKind.i64.bits ((2^j:Nat):Int)).toNat=v ||| 2^j:=by
    show (BitVec.ofInt 64 (v:Int) ||| BitVec.ofInt 64 ((2^j:Nat):Int)).toNat=_
    rw[BitVec.toNat_or,BitVec.ofInt_natCast,BitVec.ofInt_natCast,BitVec.toNat_ofNat,BitVec.toNat_ofNat,Nat.mod_eq_of_lt (by omega),Nat.mod_eq_of_lt (by omega)]
  rw[e2]
  have:v ||| 2^j<2^8:=Nat.or_lt_two_pow (by omega) (by omega)
  exact w64 (by omega) (by omega)
theorem bys_set {v i:Nat} (hi:i<128) (h:2^(i+1) ∣ v):(bys v).set (i / 8) ((byt v (i / 8) ||| 2^(i % 8):Nat):Int)=bys (v+2^i):=by
  apply List.ext_getElem?
  intro j
  rw[List.getElem?_set,bys_len]
  by_cases hj:j<16
  · rw[bys_at _ hj,bys_at _ hj,byt_or h]
    by_cases e:i / 8=j
    · rw[if_pos e,if_pos e,if_pos (by omega),e]
    · rw[if_neg e,if_neg e]
  · rw[if_neg (by omega),List.getElem?_eq_none (by rw[bys_len];omega),List.getElem?_eq_none (by rw[bys_len];omega)]
theorem bit_at (A:Nat) {k:Nat}:IntKind.wrap .u64 (andI .i64 (shrI .i64 ((byt A (k / 8):Nat):Int) ((k % 8:Nat):Int)) (1:Int))=((A / 2^k % 2:Nat):Int):=by
  have hb:=byt_lt A (k / 8)
  rw[shr64 _ _ (by omega),and1 (Nat.lt_of_le_of_lt (Nat.div_le_self _ _) hb),bit_byt,wu64 (by omega) (by omega)]
theorem r01_div_l8 (n:Nat) {A D:Nat} (hA:A<340282366920938463463374607431768211456) (hD:D<18446744073709551616) (hD0:0<D) (s4:Wd):∀(k f q r:Nat),k≤128→A / 2^k=D*q+r→r<D→k<f →
    r01_Div_l8 (n+3) f (s4,(bys (q*2^k),(ofN r,(bys A,(ofN D,((k:Int)-1,()))))))=some (.inl (s4,(bys (A / D),(ofN (A % D),())))):=by
  intro k
  induction k with
  | zero =>
    intro f q r hk h hr hf
    obtain ⟨f,rfl⟩:∃g,f=g+1:=⟨f-1,by omega⟩
    rw[Nat.pow_zero,Nat.div_one] at h
    obtain ⟨e1,e2⟩:=(Nat.div_mod_unique (a:=A) (c:=r) (d:=q) hD0).2 ⟨by omega,hr⟩
    rw[r01_Div_l8_eq,decide_eq_false (by omega),tff,e1,e2,Nat.pow_zero,Nat.mul_one]
  | succ k ih =>
    intro f q r hk h hr hf
    obtain ⟨f,rfl⟩:∃g,f=g+1:=⟨f-1,by omega⟩
    obtain ⟨d1,d2⟩:=div_step (L:=0) hD0 h hr
    have e1:IntKind.wrap .i64 (Int.tdiv (k:Int) 8)=((k / 8:Nat):Int):=by rw[tdiv_nn (by omega),w64 (by omega) (by omega)];omega
    have e2:Int.tmod (k:Int) 8=((k % 8:Nat):Int):=by rw[tmod_nn (by omega)];omega
    have eb:((k+1:Nat):Int)-1=(k:Int):=by omega
    have hk8:k / 8<16:=by omega
    have hbit:A / 2^k % 2<2:=Nat.mod_lt _ (by decide)
    have hdvd:2^(k+1) ∣ q*2^(k+1):=Nat.dvd_mul_left _ _
    have eq1:(2*q+1)*2^k=q*2^(k+1)+2^k:=by rw[Nat.pow_succ,Nat.add_mul,Nat.one_mul,Nat.mul_comm 2 q,Nat.mul_assoc,Nat.mul_comm 2 (2^k)]
    have eq0:(2*q)*2^k=q*2^(k+1):=by rw[Nat.pow_succ,Nat.mul_comm 2 q,Nat.mul_assoc,Nat.mul_comm 2 (2^k)]
    have hset:=bys_set (v:=q*2^(k+1)) (i:=k) (by omega) hdvd
    have hob:=orbit (v:=byt (q*2^(k+1)) (k / 8)) (j:=k % 8) (byt_lt _ _) (by omega)
    have c1:decide ((0:Int)≤((k / 8:Nat):Int))=true:=decide_eq_true (by omega)
    have c2:decide (((k / 8:Nat):Int)<(16:Int))=true:=decide_eq_true (by omega)
    have c3:decide (((k / 8:Nat):Int)<((16:Nat):Int))=true:=decide_eq_true (by omega)
    have c4:decide (((k % 8:Nat):Int)<(0:Int))=false:=decide_eq_false (by omega)
    rw[r01_Div_l8_eq,eb,decide_eq_true (by omega),tft,r01_addN (n+1) (by omega) (by omega),obs]
    simp only[e1,e2,bys_len,c1,c2,c3,c4,Bool.and_self,tft,tff,Int.toNat_natCast,bys_at _ hk8,obs,bit_at,hob,hset]
    rw[w64 (x:=(k:Int)-1) (by omega) (by omega),lo_ofN (b:=A / 2^k % 2) (by omega)]
    generalize hb:A / 2^k % 2=b at *
    rw[if_pos (by omega)]
    simp only
    rw[r01_addN (n+1) (by omega) (by omega),obs,if_pos (by omega)]
    simp only
    rw[r01_lessN (n+1) (by omega) (by omega),obs,tfn,tfd]
    by_cases hlt:r+r+b<D
    · rw[if_pos hlt]
      have:=ih f (2*q) (r+r+b) (by omega) (by rw[d2 (by omega)];omega) hlt (by omega)
      rw[eq0] at this
      exact this
    · obtain ⟨t1,t2⟩:=d1 (by omega)
      rw[if_neg hlt,r01_subN n (by omega) (by omega),obs]
      have:=ih f (2*q+1) (r+r+b-D) (by omega) (by rw[t1];omega) (by omega) (by omega)
      rw[eq1] at this
      exact this
theorem r01_div (n:Nat) {A D:Nat} (hA:A<340282366920938463463374607431768211456) (hD:D<18446744073709551616) (hD0:0<D):r01_Div (n+4) (ofN A) (D:Int)=some (ofN (A / D),((ofN (A % D)).2,0)):=by
  rw[r01_Div_eq,tfd,if_neg (by omega)]
  obtain ⟨ra,ha,hla⟩:=r01_bytesN (n+2) hA
  rw[ha,obs]
  rw[show (decide (16=((((((((((((((((1+1)+1)+1)+1)+1)+1)+1)+1)+1)+1)+1)+1)+1)+1)+1) / 1)))=true from rfl,tft]
  have:=r01_div_l8 n hA hD hD0 (0,0) 128 loopFuel 0 0 (Nat.le_refl _) (by rw[Nat.mul_zero];exact Nat.div_eq_of_lt hA) (by omega) (by unfold loopFuel;omega)
  rw[Nat.zero_mul,show bys 0=List.replicate 16 (0:Int) from rfl,←hla,show (((128:Nat):Int)-1)=127 from rfl,←zero_ofN,←lo_ofN hD] at this
  change obind (r01_Div_l8 (n+3) loopFuel ((0,0),(List.replicate 16 (0:Int),((0,0),(l16 ra,(((0:Int),(D:Int)),(127,()))))))) _=_
  rw[this,obs,selim_inl]
  exact r01_ofL (n+2) (Nat.lt_of_le_of_lt (Nat.div_le_self _ _) hA) (fun r=>some (r,((ofN (A % D)).2,(0:Int)))) rfl
theorem toB_dig {d:Nat} (h:d<10):toB [((48+d:Nat):Int)]=[UInt8.ofNat (Int.toNat (IntKind.wrap .u8 (IntKind.wrap .u64 ((48:Int)+(d:Int)))))]:=by
  rw[wu64 (by omega) (by omega),wu8 (by omega) (by omega)]
  simp only[toB,List.map_cons,List.map_nil]
  rw[show ((48+d:Nat):Int)=(48:Int)+(d:Int) by omega]
theorem r01_text (n:Nat):∀(d u:Nat),u<10^(d+1)→u<18446744073709551616→d≤30→r01_Text (n+d+5) (ofN u)=some (toB (decI u)):=by
  intro d
  induction d with
  | zero =>
    intro u h hu hd
    have h10:u<10:=by simpa using h
    rw[r01_Text_eq,show (10:Int)=((10:Nat):Int) from rfl,r01_div (n+0) (by omega) (by omega) (by omega),obs,Nat.div_eq_of_lt h10,Nat.mod_eq_of_lt h10,ofN_zero,tfd,if_pos rfl,decI_small h10,toB_dig h10]
    simp only[ofN]
    rw[Nat.mod_eq_of_lt (by omega)]
  | succ d ih =>
    intro u h hu hd
    rw[r01_Text_eq,show n+(d+1)+4=(n+d+1)+4 by omega,show (10:Int)=((10:Nat):Int) from rfl,r01_div (n+d+1) (by omega) (by omega) (by omega),obs,ofN_zero,tfd]
    have hm:(ofN (u % 10)).2=((u % 10:Nat):Int):=by simp only[ofN];rw[Nat.mod_eq_of_lt (by omega)]
    by_cases h10:u<10
    · rw[if_pos (Nat.div_eq_of_lt h10),hm,Nat.mod_eq_of_lt h10,decI_small h10,toB_dig h10]
    · rw[if_neg (by omega)]
      have:=ih (u / 10) (by rw[Nat.div_lt_iff_lt_mul (by omega)];rw[Nat.pow_succ] at h;exact h) (by omega) (by omega)
      rw[show n+d+1+4=n+d+5 by omega,this,obs,toB_length]
      have hlen:(decI (u / 10)).length≤20:=by unfold decI;rw[dgs_len];exact ndg_le (by omega)
      rw[tfd,if_pos (by omega),decI_step (by omega) (Nat.lt_of_lt_of_le hu (by decide)),toB_append,toB_dig (by omega),hm]
theorem pow10_at {t:Nat} (h:t<20):at? ((1:Int)::((10:Int)::((100:Int)::((1000:Int)::((10000:Int)::((100000:Int)::((1000000:Int)::((10000000:Int)::((100000000:Int)::((1000000000:Int)::((10000000000:Int)::((100000000000:Int)::((1000000000000:Int)::((10000000000000:Int)::((100000000000000:Int)::((1000000000000000:Int)::((10000000000000000:Int)::((100000000000000000:Int)::((1000000000000000000:Int)::((10000000000000000000:Int)::[])))))))))))))))))))) (t:Int)=some ((10^t:Nat):Int):=by
  have:=List.all_eq_true.1 (show ((List.range 20).all fun t=>decide (at? ((1:Int)::((10:Int)::((100:Int)::((1000:Int)::((10000:Int)::((100000:Int)::((1000000:Int)::((10000000:Int)::((100000000:Int)::((1000000000:Int)::((10000000000:Int)::((100000000000:Int)::((1000000000000:Int)::((10000000000000:Int)::((100000000000000:Int)::((1000000000000000:Int)::((10000000000000000:Int)::((100000000000000000:Int)::((1000000000000000000:Int)::((10000000000000000000:Int)::[])))))))))))))))))))) (t:Int)=some ((10^t:Nat):Int)))=true by decide +kernel) t (List.mem_range.2 h)
  exact of_decide_eq_true this
theorem numDigits_val (n:Nat) {u:Nat} (h0:0<u) (h:u<18446744073709551616):strconv_numDigits (n+2) (u:Int)=some ((ndg u:Nat):Int):=by
  have hb:=(bl_spec 64 u h).2.2
  have hl:=lgt_lt hb
  rw[strconv_numDigits_eq,len64_val n h,obs,strconv_log10Pow2_eq,obs]
  have e:shrI .i64 (IntKind.wrap .i64 (((bl 64 u:Nat):Int)*(78913:Int))) (18:Int)=((lgt (bl 64 u):Nat):Int):=by
    rw[show ((bl 64 u:Nat):Int)*(78913:Int)=((bl 64 u*78913:Nat):Int) by omega,w64 (by omega) (by omega),show (18:Int)=((18:Nat):Int) from rfl,shr64 _ _ (by omega)]
    rfl
  rw[e,pow10_at hl,obs,strconv_bool2_int_eq,tfd,ndg_bl h0 h]
  by_cases hle:10^lgt (bl 64 u)≤u
  · rw[if_pos (by exact_mod_cast hle),if_pos hle,obs,w64 (by omega) (by omega)];rfl
  · rw[if_neg (fun k=>hle (by exact_mod_cast k)),if_neg hle,obs,w64 (by omega) (by omega)];rfl
theorem small_all (n:Nat):((List.range 100).all fun x=>match strconv_small (n+1) (x:Int) with | some r=>decide (r=toB (decI x)) | none=>false)=true:=by kernel_rfl
theorem small_val (n:Nat) {x:Nat} (h:x<100):strconv_small (n+1) (x:Int)=some (toB (decI x)):=by
  have:=List.all_eq_true.1 (small_all n) x (List.mem_range.2 h)
  cases hs:strconv_small (n+1) (x:Int) with
  | none=>simp only[hs] at this;cases this
  | some r=>simp only[hs,decide_eq_true_eq] at this;rw[this]
theorem at_tk0 {X:List Int} {len:Nat} (h:0<len) (hX:len≤X.length):∃y,at? (List.take len (List.drop 0 X)) (0:Int)=some y:=at_tk (i:=0) h hX
theorem last_dig {v:Nat} (h:v<10):IntKind.wrap .u8 (IntKind.wrap .u32 ((48:Int)+(v:Int)))=((48+v:Nat):Int):=by
  rw[show (48:Int)+(v:Int)=((48+v:Nat):Int) by omega,wu32 (by omega),wu8 (by omega) (by omega)]
theorem fill_take {U len:Nat} {L:List Int} (hL:len≤L.length) (h:∀j,j<len→L[j]? = some ((48+U / 10^(len-1-j) % 10:Nat):Int)):L.take len=dgs U len:=by
  refine dgs_of (by rw[List.length_take];omega) fun j hj => ?_
  rw[List.getElem?_take,if_pos hj];exact h j hj
theorem fb_val (n:Nat) {u len:Nat} (hu:u<18446744073709551616) (hlen:len≤20) (hd:u<10^len) (L0:List Int) (hL0:L0.length=24) :
    ∃L,strconv_formatBase10 (n+1) (L0,(0,len)) (u:Int)=some (L,(0,len))∧L.length=24∧L.take len=dgs u len:=by
  obtain ⟨L,h1,h2,h3⟩:=fb_l1 n (U:=u) (len:=len) (by omega) hu (len / 8) loopFuel len L0 rfl (by unfold loopFuel;omega) (Nat.le_refl _) (by omega) (fun j hj hj2=>by omega)
  rw[Nat.sub_self,Nat.pow_zero,Nat.div_one] at h1
  rw[strconv_formatBase10_eq]
  change ∃L,obind (strconv_formatBase10_l1 n loopFuel ((L0,(0,len)),((u:Int),((len:Int),())))) _=_∧_
  rw[h1,obs,selim_inl]
  have hv:u / 10^(len-len % 8)<10^(len % 8):=by
    rw[Nat.div_lt_iff_lt_mul (Nat.pow_pos (by omega)),←Nat.pow_add,show len % 8+(len-len % 8)=len by omega];exact hd
  have hk8:len % 8<8:=Nat.mod_lt _ (by omega)
  have hkl:len % 8≤len:=Nat.mod_le _ _
  have hdig:∀i,i<len % 8→u / 10^(len-1-(len % 8-1-i))=u / 10^(len-len % 8) / 10^i:=fun i hi=>dig_at u hkl hi
  rw[hL0] at h2
  generalize len % 8=k at *
  generalize u / 10^(len-k)=v at *
  have hv7:v<10000000:=Nat.lt_of_lt_of_le hv (Nat.le_trans (Nat.pow_le_pow_right (by omega) (show k≤7 by omega)) (by decide))
  have e1:IntKind.wrap .u32 (v:Int)=(v:Int):=wu32 (by omega)
  have leaf:∀L':List Int,L'.length=24→(∀j,j<len→L'[j]? = some ((48+u / 10^(len-1-j) % 10:Nat):Int))→∃L,some (L',((0:Nat),len))=some (L,(0,len))∧L.length=24∧L.take len=dgs u len :=
    fun L' a b=>⟨L',rfl,a,fill_take (by omega) b⟩
  simp only[tfd,e1]
  by_cases h4:4≤k
  · rw[if_pos (by omega)]
    have e2:IntKind.wrap .u32 (Int.tdiv (v:Int) (10000:Int))=((v / 10000:Nat):Int):=by rw[td10000,wu32 (by omega)]
    rw[tm10000,e2]
    generalize hx10:v % 10000=x10
    generalize hx:v / 10000=x
    have e3:IntKind.wrap .u32 (Int.tdiv (x10:Int) (100:Int))=((x10 / 100:Nat):Int):=by rw[td100,wu32 (by omega)]
    have e4:IntKind.wrap .u32 (Int.tdiv (x:Int) (100:Int))=((x / 100:Nat):Int):=by rw[td100,wu32 (by omega)]
    have w1:=sub64 (k:=k) (c:=1) (z:=1) rfl (by omega) (by omega)
    have w2:=sub64 (k:=k) (c:=2) (z:=2) rfl (by omega) (by omega)
    have w3:=sub64 (k:=k) (c:=3) (z:=3) rfl (by omega) (by omega)
    have w4:=sub64 (k:=k) (c:=4) (z:=4) rfl (by omega) (by omega)
    simp only[e3,e4,tm100,w1,w2,w3,w4,Int.toNat_natCast]
    rw[obind_of (sm_lo (x:=x10 % 100) (by omega)),obind_of (sm_hi (x:=x10 % 100) (by omega))]
    rw[obind_const (at_tk (by omega) (by first | omega | (simp only[List.length_set];omega))),obind_const (gi_tk (by first | omega | (simp only[List.length_set];omega)))]
    rw[obind_const (at_tk (by omega) (by first | omega | (simp only[List.length_set];omega))),obind_const (gi_tk (by first | omega | (simp only[List.length_set];omega)))]
    rw[obind_of (sm_lo (x:=x10 / 100) (by omega)),obind_of (sm_hi (x:=x10 / 100) (by omega))]
    rw[obind_const (at_tk (by omega) (by first | omega | (simp only[List.length_set];omega))),obind_const (gi_tk (by first | omega | (simp only[List.length_set];omega)))]
    rw[obind_const (at_tk (by omega) (by first | omega | (simp only[List.length_set];omega))),obind_const (gi_tk (by first | omega | (simp only[List.length_set];omega)))]
    by_cases h6:6≤k
    · rw[if_pos (by omega)]
      have v1:=sub64 (k:=k-4) (c:=1) (z:=1) rfl (by omega) (by omega)
      have v2:=sub64 (k:=k-4) (c:=2) (z:=2) rfl (by omega) (by omega)
      simp only[v1,v2,Int.toNat_natCast]
      rw[obind_of (sm_lo (x:=x % 100) (by omega)),obind_of (sm_hi (x:=x % 100) (by omega))]
      rw[obind_const (at_tk (by omega) (by first | omega | (simp only[List.length_set];omega))),obind_const (gi_tk (by first | omega | (simp only[List.length_set];omega)))]
      rw[obind_const (at_tk (by omega) (by first | omega | (simp only[List.length_set];omega))),obind_const (gi_tk (by first | omega | (simp only[List.length_set];omega)))]
      by_cases h7:k=7
      · subst h7
        rw[if_pos (by omega)]
        rw[obind_const (at_tk0 (by omega) (by first | omega | (simp only[List.length_set];omega))),obind_const (gi_tk (by first | omega | (simp only[List.length_set];omega)))]
        rw[last_dig (by omega)]
        simp only[Nat.zero_add]
        rw[u8d (d:=x10 % 100 % 10) (by omega),u8d (d:=x10 % 100 / 10) (by omega),u8d (d:=x10 / 100 % 10) (by omega),u8d (d:=x10 / 100 / 10) (by omega),u8d (d:=x % 100 % 10) (by omega),u8d (d:=x % 100 / 10) (by omega)]
        refine leaf _ (by simp only[List.length_set];exact h2) fun j hj => ?_
        by_cases hjk:7≤j
        · repeat rw[List.getElem?_set_ne (by omega)]
          exact h3 j hjk hj
        · have hc:j=6∨j=5∨j=4∨j=3∨j=2∨j=1∨j=0:=by omega
          rcases hc with hc | hc | hc | hc | hc | hc | hc
          · rw[hc,show u / 10^(len-1-(6))=v / 10^0 by have:=hdig 0 (by omega);rwa [show 7-1-0=6 by omega] at this,List.getElem?_set_ne (by omega),List.getElem?_set_ne (by omega),List.getElem?_set_ne (by omega),List.getElem?_set_ne (by omega),List.getElem?_set_ne (by omega),List.getElem?_set_ne (by omega),List.getElem?_set_self (by first | omega | (simp only[List.length_set];omega))]
            exact dig_eq (by simp only[Nat.reducePow];simp only[Nat.reducePow] at hv;omega)
          · rw[hc,show u / 10^(len-1-(5))=v / 10^1 by have:=hdig 1 (by omega);rwa [show 7-1-1=5 by omega] at this,List.getElem?_set_ne (by omega),List.getElem?_set_ne (by omega),List.getElem?_set_ne (by omega),List.getElem?_set_ne (by omega),List.getElem?_set_ne (by omega),List.getElem?_set_self (by first | omega | (simp only[List.length_set];omega))]
            exact dig_eq (by simp only[Nat.reducePow];simp only[Nat.reducePow] at hv;omega)
          · rw[hc,show u / 10^(len-1-(4))=v / 10^2 by have:=hdig 2 (by omega);rwa [show 7-1-2=4 by omega] at this,List.getElem?_set_ne (by omega),List.getElem?_set_ne (by omega),List.getElem?_set_ne (by omega),List.getElem?_set_ne (by omega),List.getElem?_set_self (by first | omega | (simp only[List.length_set];omega))]
            exact dig_eq (by simp only[Nat.reducePow];simp only[Nat.reducePow] at hv;omega)
          · rw[hc,show u / 10^(len-1-(3))=v / 10^3 by have:=hdig 3 (by omega);rwa [show 7-1-3=3 by omega] at this,List.getElem?_set_ne (by omega),List.getElem?_set_ne (by omega),List.getElem?_set_ne (by omega),List.getElem?_set_self (by first | omega | (simp only[List.length_set];omega))]
            exact dig_eq (by simp only[Nat.reducePow];simp only[Nat.reducePow] at hv;omega)
          · rw[hc,show u / 10^(len-1-(2))=v / 10^4 by have:=hdig 4 (by omega);rwa [show 7-1-4=2 by omega] at this,List.getElem?_set_ne (by omega),List.getElem?_set_ne (by omega),List.getElem?_set_self (by first | omega | (simp only[List.length_set];omega))]
            exact dig_eq (by simp only[Nat.reducePow];simp only[Nat.reducePow] at hv;omega)
          · rw[hc,show u / 10^(len-1-(1))=v / 10^5 by have:=hdig 5 (by omega);rwa [show 7-1-5=1 by omega] at this,List.getElem?_set_ne (by omega),List.getElem?_set_self (by first | omega | (simp only[List.length_set];omega))]
            exact dig_eq (by simp only[Nat.reducePow];simp only[Nat.reducePow] at hv;omega)
          · rw[hc,show u / 10^(len-1-(0))=v / 10^6 by have:=hdig 6 (by omega);rwa [show 7-1-6=0 by omega] at this,List.getElem?_set_self (by first | omega | (simp only[List.length_set];omega))]
            exact dig_eq (by simp only[Nat.reducePow];simp only[Nat.reducePow] at hv;omega)
      · have h6':k=6:=by omega
        subst h6'
        rw[if_neg (by omega)]
        simp only[Nat.zero_add]
        rw[u8d (d:=x10 % 100 % 10) (by omega),u8d (d:=x10 % 100 / 10) (by omega),u8d (d:=x10 / 100 % 10) (by omega),u8d (d:=x10 / 100 / 10) (by omega),u8d (d:=x % 100 % 10) (by omega),u8d (d:=x % 100 / 10) (by omega)]
        refine leaf _ (by simp only[List.length_set];exact h2) fun j hj => ?_
        by_cases hjk:6≤j
        · repeat rw[List.getElem?_set_ne (by omega)]
          exact h3 j hjk hj
        · have hc:j=5∨j=4∨j=3∨j=2∨j=1∨j=0:=by omega
          rcases hc with hc | hc | hc | hc | hc | hc
          · rw[hc,show u / 10^(len-1-(5))=v / 10^0 by have:=hdig 0 (by omega);rwa [show 6-1-0=5 by omega] at this,List.getElem?_set_ne (by omega),List.getElem?_set_ne (by omega),List.getElem?_set_ne (by omega),List.getElem?_set_ne (by omega),List.getElem?_set_ne (by omega),List.getElem?_set_self (by first | omega | (simp only[List.length_set];omega))]
            exact dig_eq (by simp only[Nat.reducePow];simp only[Nat.reducePow] at hv;omega)
          · rw[hc,show u / 10^(len-1-(4))=v / 10^1 by have:=hdig 1 (by omega);rwa [show 6-1-1=4 by omega] at this,List.getElem?_set_ne (by omega),List.getElem?_set_ne (by omega),List.getElem?_set_ne (by omega),List.getElem?_set_ne (by omega),List.getElem?_set_self (by first | omega | (simp only[List.length_set];omega))]
            exact dig_eq (by simp only[Nat.reducePow];simp only[Nat.reducePow] at hv;omega)
          · rw[hc,show u / 10^(len-1-(3))=v / 10^2 by have:=hdig 2 (by omega);rwa [show 6-1-2=3 by omega] at this,List.getElem?_set_ne (by omega),List.getElem?_set_ne (by omega),List.getElem?_set_ne (by omega),List.getElem?_set_self (by first | omega | (simp only[List.length_set];omega))]
            exact dig_eq (by simp only[Nat.reducePow];simp only[Nat.reducePow] at hv;omega)
          · rw[hc,show u / 10^(len-1-(2))=v / 10^3 by have:=hdig 3 (by omega);rwa [show 6-1-3=2 by omega] at this,List.getElem?_set_ne (by omega),List.getElem?_set_ne (by omega),List.getElem?_set_self (by first | omega | (simp only[List.length_set];omega))]
            exact dig_eq (by simp only[Nat.reducePow];simp only[Nat.reducePow] at hv;omega)
          · rw[hc,show u / 10^(len-1-(1))=v / 10^4 by have:=hdig 4 (by omega);rwa [show 6-1-4=1 by omega] at this,List.getElem?_set_ne (by omega),List.getElem?_set_self (by first | omega | (simp only[List.length_set];omega))]
            exact dig_eq (by simp only[Nat.reducePow];simp only[Nat.reducePow] at hv;omega)
          · rw[hc,show u / 10^(len-1-(0))=v / 10^5 by have:=hdig 5 (by omega);rwa [show 6-1-5=0 by omega] at this,List.getElem?_set_self (by first | omega | (simp only[List.length_set];omega))]
            exact dig_eq (by simp only[Nat.reducePow];simp only[Nat.reducePow] at hv;omega)
    · rw[if_neg (by omega)]
      by_cases h5:k=5
      · subst h5
        rw[if_pos (by omega)]
        rw[obind_const (at_tk0 (by omega) (by first | omega | (simp only[List.length_set];omega))),obind_const (gi_tk (by first | omega | (simp only[List.length_set];omega)))]
        have hx9:x<10:=by simp only[Nat.reducePow] at hv;omega
        rw[last_dig hx9]
        simp only[Nat.zero_add]
        rw[u8d (d:=x10 % 100 % 10) (by omega),u8d (d:=x10 % 100 / 10) (by omega),u8d (d:=x10 / 100 % 10) (by omega),u8d (d:=x10 / 100 / 10) (by omega)]
        refine leaf _ (by simp only[List.length_set];exact h2) fun j hj => ?_
        by_cases hjk:5≤j
        · repeat rw[List.getElem?_set_ne (by omega)]
          exact h3 j hjk hj
        · have hc:j=4∨j=3∨j=2∨j=1∨j=0:=by omega
          rcases hc with hc | hc | hc | hc | hc
          · rw[hc,show u / 10^(len-1-(4))=v / 10^0 by have:=hdig 0 (by omega);rwa [show 5-1-0=4 by omega] at this,List.getElem?_set_ne (by omega),List.getElem?_set_ne (by omega),List.getElem?_set_ne (by omega),List.getElem?_set_ne (by omega),List.getElem?_set_self (by first | omega | (simp only[List.length_set];omega))]
            exact dig_eq (by simp only[Nat.reducePow];simp only[Nat.reducePow] at hv;omega)
          · rw[hc,show u / 10^(len-1-(3))=v / 10^1 by have:=hdig 1 (by omega);rwa [show 5-1-1=3 by omega] at this,List.getElem?_set_ne (by omega),List.getElem?_set_ne (by omega),List.getElem?_set_ne (by omega),List.getElem?_set_self (by first | omega | (simp only[List.length_set];omega))]
            exact dig_eq (by simp only[Nat.reducePow];simp only[Nat.reducePow] at hv;omega)
          · rw[hc,show u / 10^(len-1-(2))=v / 10^2 by have:=hdig 2 (by omega);rwa [show 5-1-2=2 by omega] at this,List.getElem?_set_ne (by omega),List.getElem?_set_ne (by omega),List.getElem?_set_self (by first | omega | (simp only[List.length_set];omega))]
            exact dig_eq (by simp only[Nat.reducePow];simp only[Nat.reducePow] at hv;omega)
          · rw[hc,show u / 10^(len-1-(1))=v / 10^3 by have:=hdig 3 (by omega);rwa [show 5-1-3=1 by omega] at this,List.getElem?_set_ne (by omega),List.getElem?_set_self (by first | omega | (simp only[List.length_set];omega))]
            exact dig_eq (by simp only[Nat.reducePow];simp only[Nat.reducePow] at hv;omega)
          · rw[hc,show u / 10^(len-1-(0))=v / 10^4 by have:=hdig 4 (by omega);rwa [show 5-1-4=0 by omega] at this,List.getElem?_set_self (by first | omega | (simp only[List.length_set];omega))]
            exact dig_eq (by simp only[Nat.reducePow];simp only[Nat.reducePow] at hv;omega)
      · have h4':k=4:=by omega
        subst h4'
        rw[if_neg (by omega)]
        simp only[Nat.zero_add]
        rw[u8d (d:=x10 % 100 % 10) (by omega),u8d (d:=x10 % 100 / 10) (by omega),u8d (d:=x10 / 100 % 10) (by omega),u8d (d:=x10 / 100 / 10) (by omega)]
        refine leaf _ (by simp only[List.length_set];exact h2) fun j hj => ?_
        by_cases hjk:4≤j
        · repeat rw[List.getElem?_set_ne (by omega)]
          exact h3 j hjk hj
        · have hc:j=3∨j=2∨j=1∨j=0:=by omega
          rcases hc with hc | hc | hc | hc
          · rw[hc,show u / 10^(len-1-(3))=v / 10^0 by have:=hdig 0 (by omega);rwa [show 4-1-0=3 by omega] at this,List.getElem?_set_ne (by omega),List.getElem?_set_ne (by omega),List.getElem?_set_ne (by omega),List.getElem?_set_self (by first | omega | (simp only[List.length_set];omega))]
            exact dig_eq (by simp only[Nat.reducePow];simp only[Nat.reducePow] at hv;omega)
          · rw[hc,show u / 10^(len-1-(2))=v / 10^1 by have:=hdig 1 (by omega);rwa [show 4-1-1=2 by omega] at this,List.getElem?_set_ne (by omega),List.getElem?_set_ne (by omega),List.getElem?_set_self (by first | omega | (simp only[List.length_set];omega))]
            exact dig_eq (by simp only[Nat.reducePow];simp only[Nat.reducePow] at hv;omega)
          · rw[hc,show u / 10^(len-1-(1))=v / 10^2 by have:=hdig 2 (by omega);rwa [show 4-1-2=1 by omega] at this,List.getElem?_set_ne (by omega),List.getElem?_set_self (by first | omega | (simp only[List.length_set];omega))]
            exact dig_eq (by simp only[Nat.reducePow];simp only[Nat.reducePow] at hv;omega)
          · rw[hc,show u / 10^(len-1-(0))=v / 10^3 by have:=hdig 3 (by omega);rwa [show 4-1-3=0 by omega] at this,List.getElem?_set_self (by first | omega | (simp only[List.length_set];omega))]
            exact dig_eq (by simp only[Nat.reducePow];simp only[Nat.reducePow] at hv;omega)
  · rw[if_neg (by omega)]
    have e4:IntKind.wrap .u32 (Int.tdiv (v:Int) (100:Int))=((v / 100:Nat):Int):=by rw[td100,wu32 (by omega)]
    by_cases h2':2≤k
    · rw[if_pos (by omega)]
      have w1:=sub64 (k:=k) (c:=1) (z:=1) rfl (by omega) (by omega)
      have w2:=sub64 (k:=k) (c:=2) (z:=2) rfl (by omega) (by omega)
      simp only[e4,tm100,w1,w2,Int.toNat_natCast]
      rw[obind_of (sm_lo (x:=v % 100) (by omega)),obind_of (sm_hi (x:=v % 100) (by omega))]
      rw[obind_const (at_tk (by omega) (by first | omega | (simp only[List.length_set];omega))),obind_const (gi_tk (by first | omega | (simp only[List.length_set];omega)))]
      rw[obind_const (at_tk (by omega) (by first | omega | (simp only[List.length_set];omega))),obind_const (gi_tk (by first | omega | (simp only[List.length_set];omega)))]
      by_cases h3':k=3
      · subst h3'
        rw[if_pos (by omega)]
        rw[obind_const (at_tk0 (by omega) (by first | omega | (simp only[List.length_set];omega))),obind_const (gi_tk (by first | omega | (simp only[List.length_set];omega)))]
        have hx9:v / 100<10:=by simp only[Nat.reducePow] at hv;omega
        rw[last_dig hx9]
        simp only[Nat.zero_add]
        rw[u8d (d:=v % 100 % 10) (by omega),u8d (d:=v % 100 / 10) (by omega)]
        refine leaf _ (by simp only[List.length_set];exact h2) fun j hj => ?_
        by_cases hjk:3≤j
        · repeat rw[List.getElem?_set_ne (by omega)]
          exact h3 j hjk hj
        · have hc:j=2∨j=1∨j=0:=by omega
          rcases hc with hc | hc | hc
          · rw[hc,show u / 10^(len-1-(2))=v / 10^0 by have:=hdig 0 (by omega);rwa [show 3-1-0=2 by omega] at this,List.getElem?_set_ne (by omega),List.getElem?_set_ne (by omega),List.getElem?_set_self (by first | omega | (simp only[List.length_set];omega))]
            exact dig_eq (by simp only[Nat.reducePow];simp only[Nat.reducePow] at hv;omega)
          · rw[hc,show u / 10^(len-1-(1))=v / 10^1 by have:=hdig 1 (by omega);rwa [show 3-1-1=1 by omega] at this,List.getElem?_set_ne (by omega),List.getElem?_set_self (by first | omega | (simp only[List.length_set];omega))]
            exact dig_eq (by simp only[Nat.reducePow];simp only[Nat.reducePow] at hv;omega)
          · rw[hc,show u / 10^(len-1-(0))=v / 10^2 by have:=hdig 2 (by omega);rwa [show 3-1-2=0 by omega] at this,List.getElem?_set_self (by first | omega | (simp only[List.length_set];omega))]
            exact dig_eq (by simp only[Nat.reducePow];simp only[Nat.reducePow] at hv;omega)
      · have h2'':k=2:=by omega
        subst h2''
        rw[if_neg (by omega)]
        simp only[Nat.zero_add]
        rw[u8d (d:=v % 100 % 10) (by omega),u8d (d:=v % 100 / 10) (by omega)]
        refine leaf _ (by simp only[List.length_set];exact h2) fun j hj => ?_
        by_cases hjk:2≤j
        · repeat rw[List.getElem?_set_ne (by omega)]
          exact h3 j hjk hj
        · have hc:j=1∨j=0:=by omega
          rcases hc with hc | hc
          · rw[hc,show u / 10^(len-1-(1))=v / 10^0 by have:=hdig 0 (by omega);rwa [show 2-1-0=1 by omega] at this,List.getElem?_set_ne (by omega),List.getElem?_set_self (by first | omega | (simp only[List.length_set];omega))]
            exact dig_eq (by simp only[Nat.reducePow];simp only[Nat.reducePow] at hv;omega)
          · rw[hc,show u / 10^(len-1-(0))=v / 10^1 by have:=hdig 1 (by omega);rwa [show 2-1-1=0 by omega] at this,List.getElem?_set_self (by first | omega | (simp only[List.length_set];omega))]
            exact dig_eq (by simp only[Nat.reducePow];simp only[Nat.reducePow] at hv;omega)
    · rw[if_neg (by omega)]
      by_cases h1':k=1
      · subst h1'
        rw[if_pos (by omega)]
        rw[obind_const (at_tk0 (by omega) (by omega)),obind_const (gi_tk (by omega))]
        have hx9:v<10:=by simpa using hv
        rw[last_dig hx9]
        simp only[Nat.zero_add]
        refine leaf _ (by simp only[List.length_set];exact h2) fun j hj => ?_
        by_cases hjk:1≤j
        · rw[List.getElem?_set_ne (by omega)]
          exact h3 j hjk hj
        · have hc:j=0:=by omega
          rcases hc with hc
          · rw[hc,show u / 10^(len-1-(0))=v / 10^0 by have:=hdig 0 (by omega);rwa [show 1-1-0=0 by omega] at this,List.getElem?_set_self (by first | omega | (simp only[List.length_set];omega))]
            exact dig_eq (by simp only[Nat.reducePow];simp only[Nat.reducePow] at hv;omega)
      · rw[if_neg (by omega)]
        exact leaf _ h2 fun j hj=>h3 j (by omega) hj
theorem appendUint_val (n:Nat) {u:Nat} (h:u<18446744073709551616) (dst:List Int) (hd:dst.length≤1000000):strconv_AppendUint_ (n+3) dst (u:Int) (10:Int)=some (dst++decI u):=by
  have hlen:(decI u).length≤20:=by unfold decI;rw[dgs_len];exact ndg_le h
  rw[strconv_AppendUint__eq]
  simp only[tfd]
  rw[if_pos trivial]
  by_cases hs:u<100
  · have e:(List.map (fun y=>((UInt8.toNat y:Nat):Int)) (toB (decI u)))=decI u:=bytesI_toB fun x hx=>by have:=decI_range u x hx;omega
    rw[if_pos (by omega),w64 (by omega) (by omega),small_val (n+1) hs,obs,e,if_pos (by omega)]
  · have hnd:=ndg_le h
    rw[if_neg (by omega),numDigits_val n (by omega) h,obs,tif_ite,if_pos (by simp only[Bool.and_eq_true,decide_eq_true_eq];omega),Int.toNat_natCast,Nat.sub_zero]
    obtain ⟨L,h1,h2,h3⟩:=fb_val (n+1) h hnd (ndg_hi h) (List.replicate 24 (0:Int)) List.length_replicate
    rw[h1,obs,tif_ite,if_pos (by simp[h2]),if_pos h2,tif_ite,if_pos (by simp only[Bool.and_eq_true,decide_eq_true_eq];omega),List.drop_zero,h3,if_pos (by rw[dgs_len];omega)]
    rfl
theorem appendInt_val (n:Nat) {i:Int} (h0 : -9223372036854775808≤i) (h1:i≤9223372036854775807) (dst:List Int) (hd:dst.length≤900000):strconv_AppendInt (n+5) dst i (10:Int)=some (dst++itoI i):=by
  rw[strconv_AppendInt_eq,strconv_AppendInt__eq]
  simp only[tfd]
  unfold itoI
  by_cases hn:i<0
  · rw[if_pos hn,if_pos hn,if_pos (by omega)]
    have e:IntKind.wrap .u64 ((0:Int)-(IntKind.wrap .u64 i))=((i.natAbs:Nat):Int):=by rw[IntKind.wrap_u64,IntKind.wrap_u64];omega
    rw[e,appendUint_val n (by omega) _ (by simp only[List.length_append,List.length_cons,List.length_nil];omega),obs,obs,List.append_assoc];rfl
  · rw[if_neg hn,if_neg hn,wu64 (by omega) (by omega)]
    have e:i=((i.toNat:Nat):Int):=by omega
    rw[show strconv_AppendUint_ (n+3) dst i 10=strconv_AppendUint_ (n+3) dst ((i.toNat:Nat):Int) 10 by rw[←e],appendUint_val n (by omega) _ (by omega),obs,obs]
theorem itoI_len {i:Int} (h0 : -9223372036854775808≤i) (h1:i≤9223372036854775807):(itoI i).length≤21:=by
  unfold itoI decI
  split
  · rw[List.length_cons,dgs_len];have:=ndg_le (u:=i.natAbs) (by omega);omega
  · rw[dgs_len];have:=ndg_le (u:=i.toNat) (by omega);omega
end Go.Proofs.YtjionkknnajjgaaGreatDoor
