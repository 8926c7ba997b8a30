/-
  Plain proofs about the functions of this seat, part 1 of 2.
-/
import Derived.IntWalk
import Derived.Test.YtgkpkajaepphjaaGreatDoorTr
import Derived.Test.YtgkpkajaepphjaaGreatDoorFlatM3
namespace Go.Plim
set_option linter.unusedVariables false
abbrev Wd:=Int×Int
abbrev Ev:=Int×(Int×(Int×Bool))
abbrev Cel:=Int×(Ev×(Ev×(Wd×(Int×(Int×Int)))))
instance decWd:DecidableEq Wd:=inferInstanceAs (DecidableEq (Int×Int))
instance decEv:DecidableEq Ev:=inferInstanceAs (DecidableEq (Int×(Int×(Int×Bool))))
instance decCel:DecidableEq Cel := @instDecidableEqProd _ _ _ (@instDecidableEqProd _ _ decEv (@instDecidableEqProd _ _ decEv (@instDecidableEqProd _ _ decWd inferInstance)))
def wv (a:Wd):Int:=a.1*18446744073709551616+a.2
structure WdOk (a:Wd):Prop where
  hi:0≤a.1∧a.1≤18446744073709551615
  lo:0≤a.2∧a.2≤18446744073709551615
def mkW (v:Int):Wd:=(v / 18446744073709551616,v % 18446744073709551616)
theorem mkW_wv {a:Wd} (h:WdOk a):mkW (wv a)=a:=by
  obtain ⟨h1,h2⟩:=h
  obtain ⟨x,y⟩:=a
  simp only[mkW,wv] at *
  exact Prod.ext (by simp only;omega) (by simp only;omega)
theorem wv_mkW (v:Int):wv (mkW v)=v:=by
  simp only[mkW,wv];omega
theorem mkW_ok {v:Int} (h:0≤v) (h':v<340282366920938463463374607431768211456):WdOk (mkW v):=by
  constructor<;>simp only[mkW]<;>omega
theorem wv_range {a:Wd} (h:WdOk a):0≤wv a∧wv a<340282366920938463463374607431768211456:=by
  obtain ⟨h1,h2⟩:=h
  simp only[wv];omega
theorem wv_zero:wv (0,0)=0:=rfl
theorem wv_lo (x:Int):wv (0,x)=x:=by simp[wv]
def addW (a b:Wd):Wd×Int:=if wv a+wv b<340282366920938463463374607431768211456 then (mkW (wv a+wv b),0) else ((0,0),1)
def e0:Ev:=(0,(0,(0,false)))
structure EvOk (e:Ev):Prop where
  t0:0≤e.1
  t1:e.1<35184372088832
  v0:0≤e.2.1
  v1:e.2.1≤18446744073709551615
  c0:0≤e.2.2.1
  c1:e.2.2.1≤e.1
  st:e.2.2.2=true→e.2.1=0∧e.2.2.1=0
theorem evOk_iff (e:Ev):EvOk e↔(0≤e.1∧e.1<35184372088832∧0≤e.2.1∧e.2.1≤18446744073709551615∧0≤e.2.2.1∧e.2.2.1≤e.1∧(e.2.2.2=true→e.2.1=0∧e.2.2.1=0)) :=
  ⟨fun ⟨a,b,c,d,f,g,h⟩=>⟨a,b,c,d,f,g,h⟩,fun ⟨a,b,c,d,f,g,h⟩=>⟨a,b,c,d,f,g,h⟩⟩
instance (e:Ev):Decidable (EvOk e):=decidable_of_iff _ (evOk_iff e).symm
def btw (p c:Ev):Int×(Int×(Int×Int)) :=
  if c.2.2.2=true then (0,0,0,0)
  else if p.1<c.2.2.1 then (c.2.1,1,0,c.1-c.2.2.1)
  else if p.2.2.2=true then (0,0,1,0)
  else if c.2.1<p.2.1 then (c.2.1,1,0,c.1-p.1)
  else (c.2.1-p.2.1,0,0,c.1-p.1)
structure DlOk (d:Int×(Int×(Int×Int))) (s:Int):Prop where
  i:0≤d.1∧d.1≤18446744073709551615
  r:0≤d.2.1
  g:0≤d.2.2.1
  rg:d.2.1+d.2.2.1≤1
  s:0≤d.2.2.2∧d.2.2.2≤s
theorem btw_ok {p c:Ev} (hp:EvOk p) (hc:EvOk c) (h:p.1<c.1):DlOk (btw p c) (c.1-p.1):=by
  obtain ⟨a1,a2,a3,a4,a5,a6,a7⟩:=hp
  obtain ⟨b1,b2,b3,b4,b5,b6,b7⟩:=hc
  unfold btw
  by_cases k1:c.2.2.2=true
  · rw[if_pos k1];constructor<;>simp only<;>omega
  rw[if_neg k1]
  by_cases k2:p.1<c.2.2.1
  · rw[if_pos k2];constructor<;>simp only<;>omega
  rw[if_neg k2]
  by_cases k3:p.2.2.2=true
  · rw[if_pos k3];constructor<;>simp only<;>omega
  rw[if_neg k3]
  by_cases k4:c.2.1<p.2.1
  · rw[if_pos k4];constructor<;>simp only<;>omega
  rw[if_neg k4]
  constructor<;>simp only<;>omega
def z0:Cel:=(0,(e0,(e0,((0,0),(0,(0,0))))))
structure CellN (c:Cel):Prop where
  n1:1≤c.1
  f:EvOk c.2.1
  l:EvOk c.2.2.1
  one:c.1=1→c.2.1=c.2.2.1
  more:1<c.1→c.2.1.1<c.2.2.1.1
  n2:c.1-1≤c.2.2.1.1-c.2.1.1
  w:WdOk c.2.2.2.1
  inc:wv c.2.2.2.1≤18446744073709551615*(c.1-1)
  r:0≤c.2.2.2.2.1
  g:0≤c.2.2.2.2.2.1
  rg:c.2.2.2.2.1+c.2.2.2.2.2.1≤c.1-1
  s0:0≤c.2.2.2.2.2.2
  s1:c.2.2.2.2.2.2≤c.2.2.1.1-c.2.1.1
theorem wdOk_iff (a:Wd):WdOk a↔(0≤a.1∧a.1≤18446744073709551615)∧(0≤a.2∧a.2≤18446744073709551615) :=
  ⟨fun ⟨a,b⟩=>⟨a,b⟩,fun ⟨a,b⟩=>⟨a,b⟩⟩
instance (a:Wd):Decidable (WdOk a):=decidable_of_iff _ (wdOk_iff a).symm
theorem cellN_iff (c:Cel):CellN c↔(1≤c.1∧EvOk c.2.1∧EvOk c.2.2.1∧(c.1=1→c.2.1=c.2.2.1)∧(1<c.1→c.2.1.1<c.2.2.1.1)∧c.1-1≤c.2.2.1.1-c.2.1.1∧WdOk c.2.2.2.1 ∧
    wv c.2.2.2.1≤18446744073709551615*(c.1-1)∧0≤c.2.2.2.2.1∧0≤c.2.2.2.2.2.1∧c.2.2.2.2.1+c.2.2.2.2.2.1≤c.1-1∧0≤c.2.2.2.2.2.2∧c.2.2.2.2.2.2≤c.2.2.1.1-c.2.1.1) :=
  ⟨fun ⟨a,b,c,d,e,f,g,h,i,j,k,l,m⟩=>⟨a,b,c,d,e,f,g,h,i,j,k,l,m⟩,fun ⟨a,b,c,d,e,f,g,h,i,j,k,l,m⟩=>⟨a,b,c,d,e,f,g,h,i,j,k,l,m⟩⟩
instance (c:Cel):Decidable (CellN c):=decidable_of_iff _ (cellN_iff c).symm
def CellOk (c:Cel):Prop:=c=z0∨CellN c
instance (c:Cel):Decidable (CellOk c):=by unfold CellOk;infer_instance
theorem CellN.ne {c:Cel} (h:CellN c):c≠z0:=by
  intro e;have:=h.n1;rw[e] at this;simp[z0] at this
theorem CellN.ok {c:Cel} (h:CellN c):CellOk c := .inr h
theorem ok_z0:CellOk z0 := .inl rfl
theorem CellOk.n {c:Cel} (h:CellOk c) (hz:c≠z0):CellN c:=h.resolve_left hz
theorem CellOk.count {c:Cel} (h:CellOk c):(c.1=0↔c=z0)∧0≤c.1:=by
  rcases h with rfl | h
  · exact ⟨⟨fun _=>rfl,fun _=>rfl⟩,by simp[z0]⟩
  · have:=h.n1;exact ⟨⟨fun e=>by omega,fun e=>absurd e h.ne⟩,by omega⟩
theorem CellN.ft {c:Cel} (h:CellN c):c.2.1.1≤c.2.2.1.1:=by have:=h.n1;have:=h.n2;omega
theorem CellN.small {c:Cel} (h:CellN c):c.1≤35184372088832:=by
  have:=h.n2;have:=h.f.t0;have:=h.l.t1;omega
def mrg (a b:Cel):Cel :=
  if a=z0 then b else if b=z0 then a else
    (a.1+b.1,(a.2.1,(b.2.2.1,(mkW (wv a.2.2.2.1+(btw a.2.2.1 b.2.1).1+wv b.2.2.2.1),
      (a.2.2.2.2.1+(btw a.2.2.1 b.2.1).2.1+b.2.2.2.2.1,(a.2.2.2.2.2.1+(btw a.2.2.1 b.2.1).2.2.1+b.2.2.2.2.2.1,a.2.2.2.2.2.2+(btw a.2.2.1 b.2.1).2.2.2+b.2.2.2.2.2.2))))))
def Ahead (a b:Cel):Prop:=a=z0∨b=z0∨a.2.2.1.1<b.2.1.1
instance (a b:Cel):Decidable (Ahead a b):=by unfold Ahead;infer_instance
theorem mrg_z0 (a:Cel):mrg a z0=a:=by
  unfold mrg;split
  · rename_i h;exact h.symm
  · simp
theorem z0_mrg (a:Cel):mrg z0 a=a:=by unfold mrg;simp
theorem mrg_n {a b:Cel} (ha:CellN a) (hb:CellN b):mrg a b=(a.1+b.1,(a.2.1,(b.2.2.1,(mkW (wv a.2.2.2.1+(btw a.2.2.1 b.2.1).1+wv b.2.2.2.1),
      (a.2.2.2.2.1+(btw a.2.2.1 b.2.1).2.1+b.2.2.2.2.1,(a.2.2.2.2.2.1+(btw a.2.2.1 b.2.1).2.2.1+b.2.2.2.2.2.1,a.2.2.2.2.2.2+(btw a.2.2.1 b.2.1).2.2.2+b.2.2.2.2.2.2)))))):=by
  unfold mrg;rw[if_neg ha.ne,if_neg hb.ne]
theorem mrg_N {a b:Cel} (ha:CellN a) (hb:CellN b) (h:a.2.2.1.1<b.2.1.1):CellN (mrg a b):=by
  have d:=btw_ok ha.l hb.f h
  have a1:=ha.n1;have b1:=hb.n1
  have a2:=ha.ft;have b2:=hb.ft
  have a3:=ha.inc;have b3:=hb.inc
  have a4:=wv_range ha.w;have b4:=wv_range hb.w
  have a5:=ha.small;have b5:=hb.small
  rw[mrg_n ha hb]
  generalize btw a.2.2.1 b.2.1=x at *
  obtain ⟨d1,d2,d3,d4,d5⟩:=d
  have e:18446744073709551615*(a.1+b.1-1)=18446744073709551615*(a.1-1)+18446744073709551615+18446744073709551615*(b.1-1):=by omega
  constructor<;>simp only
  · omega
  · exact ha.f
  · exact hb.l
  · intro h;omega
  · intro _;omega
  · have:=ha.n2;have:=hb.n2;omega
  · exact mkW_ok (by omega) (by omega)
  · rw[wv_mkW];omega
  · have:=ha.r;have:=hb.r;omega
  · have:=ha.g;have:=hb.g;omega
  · have:=ha.rg;have:=hb.rg;omega
  · have:=ha.s0;have:=hb.s0;omega
  · have:=ha.s1;have:=hb.s1;omega
theorem mrg_ok {a b:Cel} (ha:CellOk a) (hb:CellOk b) (h:Ahead a b):CellOk (mrg a b):=by
  by_cases k:a=z0
  · rw[k,z0_mrg];exact hb
  by_cases k':b=z0
  · rw[k',mrg_z0];exact ha
  exact .inr (mrg_N (ha.n k) (hb.n k') ((h.resolve_left k).resolve_left k'))
def evCell (e:Ev):Cel:=(1,(e,(e,((0,0),(0,(0,0))))))
def cellOf (l:List Ev):Cel:=l.foldl (fun c e=>mrg c (evCell e)) z0
structure Foll (l:List Ev):Prop where
  ok:∀e∈l,EvOk e
  inc:l.Pairwise fun a b=>a.1<b.1
theorem Foll.nil:Foll []:=⟨by simp,.nil⟩
theorem foll_append {l m:List Ev}:Foll (l++m)↔Foll l∧Foll m∧∀x∈l,∀y∈m,x.1<y.1:=by
  constructor
  · rintro ⟨h1,h2⟩
    rw[List.pairwise_append] at h2
    exact ⟨⟨fun x hx=>h1 x (by simp[hx]),h2.1⟩,⟨fun x hx=>h1 x (by simp[hx]),h2.2.1⟩,h2.2.2⟩
  · rintro ⟨h1,h2,h3⟩
    refine ⟨fun x hx => ?_,List.pairwise_append.2 ⟨h1.inc,h2.inc,h3⟩⟩
    rcases List.mem_append.1 hx with hx | hx
    · exact h1.ok x hx
    · exact h2.ok x hx
theorem Foll.sub {l m:List Ev} (h:Foll l) (s:m.Sublist l):Foll m:=⟨fun e he=>h.ok e (s.subset he),h.inc.sublist s⟩
structure Has (l:List Ev) (c:Cel):Prop where
  n:CellN c
  cnt:c.1=l.length
  first:l.head? = some c.2.1
  last:l.getLast? = some c.2.2.1
def mrgE (a b:Cel):Cel×Int:=if CellOk a∧CellOk b then (if Ahead a b then (mrg a b,0) else (z0,9)) else (z0,2)
def allE:Cel→List Cel→Cel×Int
  | c,[]=>(c,0)
  | c,x::r=>if (mrgE c x).2=0 then allE (mrgE c x).1 r else (z0,(mrgE c x).2)
end Go.Plim

namespace Go.Proofs.YtgkpkajaepphjaaGreatDoor
open Go.Flat Go.Plim
set_option linter.unusedVariables false
set_option linter.unusedSimpArgs false
theorem shr_nat (x:Int) (k:Nat) (hk:k≤64):shrI .u64 x (k:Int)=x / 2^k:=by
  unfold shrI
  rw[show min (k:Int).toNat IntKind.u64.bits=k from by show min (k:Int).toNat 64=k;omega]
  exact Int.fdiv_eq_ediv_of_nonneg _ (Int.le_of_lt (Int.pow_pos (by decide)))
theorem and_mask (x:Int) (k:Nat) (hk:k≤63) (h:0≤x) (h':x≤18446744073709551615):andI .u64 x ((2^k-1:Nat):Int)=x % ((2^k:Nat):Int):=by
  obtain ⟨a,rfl⟩:=Int.eq_ofNat_of_zero_le h
  have hp:2^k≤2^63:=Nat.pow_le_pow_right (by decide) hk
  have h63:(2:Nat)^63=9223372036854775808:=by decide
  unfold andI
  have e:(BitVec.ofInt IntKind.u64.bits (a:Int) &&& BitVec.ofInt IntKind.u64.bits ((2^k-1:Nat):Int)).toNat=a % 2^k:=by
    show (BitVec.ofInt 64 (a:Int) &&& BitVec.ofInt 64 ((2^k-1:Nat):Int)).toNat=_
    rw[BitVec.toNat_and,BitVec.ofInt_natCast,BitVec.ofInt_natCast,BitVec.toNat_ofNat,BitVec.toNat_ofNat,Nat.mod_eq_of_lt (a:=a) (by omega),Nat.mod_eq_of_lt (a:=2^k-1) (by omega),Nat.and_two_pow_sub_one_eq_mod]
  rw[e]
  have:a % 2^k<2^k:=Nat.mod_lt _ (Nat.pow_pos (by decide))
  rw[wu64 (by omega) (by omega)]
  simp
theorem or_add (a x:Int) (k:Nat) (hk:k≤56) (ha:0≤a) (ha':a<((2^k:Nat):Int)) (hx:0≤x) (hx':x≤255) :
    orI .u64 a (shlI .u64 (IntKind.wrap .u64 x) (k:Int))=a+x*((2^k:Nat):Int):=by
  obtain ⟨a,rfl⟩:=Int.eq_ofNat_of_zero_le ha
  obtain ⟨c,rfl⟩:=Int.eq_ofNat_of_zero_le hx
  have hp:2^k≤2^56:=Nat.pow_le_pow_right (by decide) hk
  have h56:(2:Nat)^56=72057594037927936:=by decide
  have hc:c*2^k≤255*2^k:=Nat.mul_le_mul_right _ (by omega)
  have e1:shlI .u64 (IntKind.wrap .u64 (c:Int)) (k:Int)=((c*2^k:Nat):Int):=by
    rw[wu64 (by omega) (by omega)]
    show IntKind.wrap .u64 ((c:Int)*2^(min (k:Int).toNat 64))=_
    rw[show min (k:Int).toNat 64=k by omega]
    have:(c:Int)*2^k=((c*2^k:Nat):Int):=by simp
    rw[this,wu64 (by omega) (by omega)]
  rw[e1]
  unfold orI
  have e2:(BitVec.ofInt IntKind.u64.bits (a:Int) ||| BitVec.ofInt IntKind.u64.bits ((c*2^k:Nat):Int)).toNat=c*2^k+a:=by
    show (BitVec.ofInt 64 (a:Int) ||| BitVec.ofInt 64 ((c*2^k:Nat):Int)).toNat=_
    rw[BitVec.toNat_or,BitVec.ofInt_natCast,BitVec.ofInt_natCast,BitVec.toNat_ofNat,BitVec.toNat_ofNat,Nat.mod_eq_of_lt (by omega),Nat.mod_eq_of_lt (by omega)]
    have:=Nat.two_pow_add_eq_or_of_lt (i:=k) (b:=a) (by omega) c
    rw[Nat.mul_comm c (2^k),this,Nat.or_comm]
  rw[e2,wu64 (by omega) (by omega)]
  simp[Int.add_comm]
theorem or_zero (a b:Int) (ha:0≤a∧a≤18446744073709551615) (hb:0≤b∧b≤18446744073709551615):orI .u64 a b=0↔a=0∧b=0:=by
  obtain ⟨a,rfl⟩:=Int.eq_ofNat_of_zero_le ha.1
  obtain ⟨b,rfl⟩:=Int.eq_ofNat_of_zero_le hb.1
  unfold orI
  have e2:(BitVec.ofInt IntKind.u64.bits (a:Int) ||| BitVec.ofInt IntKind.u64.bits (b:Int)).toNat=a ||| b:=by
    show (BitVec.ofInt 64 (a:Int) ||| BitVec.ofInt 64 (b:Int)).toNat=_
    rw[BitVec.toNat_or,BitVec.ofInt_natCast,BitVec.ofInt_natCast,BitVec.toNat_ofNat,BitVec.toNat_ofNat,Nat.mod_eq_of_lt (by omega),Nat.mod_eq_of_lt (by omega)]
  rw[e2]
  have:a ||| b<2^64:=Nat.or_lt_two_pow (by omega) (by omega)
  rw[wu64 (by omega) (by omega)]
  have h3:a ||| b=0↔a=0∧b=0:=Nat.or_eq_zero_iff
  omega
theorem wide_of (n:Nat) (x:Int):wide_Of (n+1) x=some (0,x):=wide_Of_eq n x
theorem wide_sure_val (n:Nat) (a:Wd) (o:Int):wide_sure (n+1) a o=some (if o=0 then (a,0) else ((0,0),1)):=by
  rw[wide_sure_eq]
  by_cases h:o=0<;>simp[h]
theorem wide_add (n:Nat) {a b:Wd} (ha:WdOk a) (hb:WdOk b):wide_Add (n+2) a b=some (addW a b):=by
  obtain ⟨h1,h2⟩:=ha
  obtain ⟨h3,h4⟩:=hb
  obtain ⟨ah,al⟩:=a
  obtain ⟨bh,bl⟩:=b
  simp only at h1 h2 h3 h4
  rw[wide_Add_eq]
  simp only[tif_and,tfd,if_pos h2.1,if_pos h4.1,if_pos h1.1,if_pos h3.1,tft,if_pos (show (0:Int)≤(al+bl+0) / 18446744073709551616 by omega),if_pos (show (al+bl+0) / 18446744073709551616≤(1:Int) by omega),wide_sure_val,obs]
  unfold addW
  have ea:wv (ah,al)=ah*18446744073709551616+al:=rfl
  have eb:wv (bh,bl)=bh*18446744073709551616+bl:=rfl
  generalize wv (ah,al)=va at *
  generalize wv (bh,bl)=vb at *
  by_cases hc:va+vb<340282366920938463463374607431768211456
  · rw[if_pos hc,if_pos (by omega)]
    simp only[mkW]
    congr 2
    exact Prod.ext (by simp only;omega) (by simp only;omega)
  · rw[if_neg hc,if_neg (by omega)]
theorem wide_less (n:Nat) {a b:Wd} (ha:WdOk a) (hb:WdOk b):wide_Less (n+1) a b=some (decide (wv a<wv b)):=by
  obtain ⟨h1,h2⟩:=ha
  obtain ⟨h3,h4⟩:=hb
  obtain ⟨ah,al⟩:=a
  obtain ⟨bh,bl⟩:=b
  simp only at h1 h2 h3 h4
  rw[wide_Less_eq]
  have ea:wv (ah,al)=ah*18446744073709551616+al:=rfl
  have eb:wv (bh,bl)=bh*18446744073709551616+bl:=rfl
  generalize wv (ah,al)=va at *
  generalize wv (bh,bl)=vb at *
  simp only[tfd]
  by_cases c1:ah<bh
  · rw[if_pos c1,decide_eq_true (by omega)]
  · rw[if_neg c1]
    by_cases c2:ah=bh
    · rw[if_pos c2];congr 1
      exact decide_eq_decide.2 (by omega)
    · rw[if_neg c2,decide_eq_false (by omega)]
theorem mul64 (n:Nat) (x y:Int) (hx:0≤x∧x≤18446744073709551615) (hy:0≤y∧y≤18446744073709551615):math_bits_Mul64 (n+1) x y=some (x*y / 18446744073709551616,x*y % 18446744073709551616):=by
  rw[math_bits_Mul64_eq]
  have sh:∀z:Int,shrI .u64 z (32:Int)=z / 4294967296:=fun z=>shr_nat z 32 (by decide)
  have an:∀z:Int,0≤z→z≤18446744073709551615→andI .u64 z (4294967295:Int)=z % 4294967296:=fun z h h'=>and_mask z 32 (by decide) h h'
  rw[an x hx.1 hx.2,an y hy.1 hy.2]
  simp only[sh]
  have b1:0≤x / 4294967296∧x / 4294967296≤4294967295:=by omega
  have b2:0≤y / 4294967296∧y / 4294967296≤4294967295:=by omega
  have b3:0≤x % 4294967296∧x % 4294967296≤4294967295:=by omega
  have b4:0≤y % 4294967296∧y % 4294967296≤4294967295:=by omega
  have ex:x=x / 4294967296*4294967296+x % 4294967296:=by omega
  have ey:y=y / 4294967296*4294967296+y % 4294967296:=by omega
  generalize hx1:x / 4294967296=x1 at *
  generalize hx0:x % 4294967296=x0 at *
  generalize hy1:y / 4294967296=y1 at *
  generalize hy0:y % 4294967296=y0 at *
  have bound:∀ {u v:Int},0≤u∧u≤4294967295→0≤v∧v≤4294967295→0≤u*v∧u*v≤18446744065119617025:=fun {u v} hu hv =>
    ⟨Int.mul_nonneg hu.1 hv.1,Int.le_trans (Int.mul_le_mul hu.2 hv.2 hv.1 (by decide)) (by decide)⟩
  have p11:=bound b1 b2
  have p10:=bound b1 b4
  have p01:=bound b3 b2
  have p00:=bound b3 b4
  have exy:x*y=x1*y1*18446744073709551616+(x1*y0+x0*y1)*4294967296+x0*y0:=by
    rw[ex,ey]
    simp only[Int.add_mul,Int.mul_add]
    have q1:x1*4294967296*(y1*4294967296)=x1*y1*18446744073709551616:=by
      rw[Int.mul_assoc,Int.mul_left_comm 4294967296 y1,←Int.mul_assoc];rfl
    have q2:x0*(y1*4294967296)=x0*y1*4294967296:=by rw[Int.mul_assoc]
    have q3:x1*4294967296*y0=x1*y0*4294967296:=by rw[Int.mul_assoc,Int.mul_comm 4294967296 y0,←Int.mul_assoc]
    rw[q1,q2,q3];omega
  rw[exy]
  generalize x1*y1=a11 at *
  generalize x1*y0=a10 at *
  generalize x0*y1=a01 at *
  generalize x0*y0=a00 at *
  rw[wu64 (x:=a00) (by omega) (by omega),wu64 (x:=a11) (by omega) (by omega),wu64 (x:=a10) (by omega) (by omega),wu64 (x:=a01) (by omega) (by omega)]
  rw[wu64 (x:=a10+a00 / 4294967296) (by omega) (by omega),an _ (by omega) (by omega)]
  rw[wu64 (x:=a11+(a10+a00 / 4294967296) / 4294967296) (by omega) (by omega),wu64 (x:=(a10+a00 / 4294967296) % 4294967296+a01) (by omega) (by omega),wu64 (by omega) (by omega)]
  have wm:∀z:Int,IntKind.wrap .u64 z=z % 18446744073709551616:=fun z=>IntKind.wrap_u64 z
  rw[wm]
  congr 2
  omega
def timesW (a:Wd) (k:Int):Wd×Int:=if wv a*k<340282366920938463463374607431768211456 then (mkW (wv a*k),0) else ((0,0),1)
theorem wide_times (n:Nat) {a:Wd} (ha:WdOk a) (k:Int) (hk:0≤k∧k≤18446744073709551615):wide_Times (n+2) a k=some (timesW a k):=by
  obtain ⟨h1,h2⟩:=ha
  obtain ⟨ah,al⟩:=a
  simp only at h1 h2
  rw[wide_Times_eq,mul64 n al k h2 hk,mul64 n ah k h1 hk]
  simp only[obs]
  have bd:∀ {u:Int},0≤u∧u≤18446744073709551615→0≤u*k∧u*k≤340282366920938463426481119284349108225:=fun {u} hu =>
    ⟨Int.mul_nonneg hu.1 hk.1,Int.le_trans (Int.mul_le_mul hu.2 hk.2 hk.1 (by decide)) (by decide)⟩
  have b1:=bd h1
  have b2:=bd h2
  unfold timesW
  have e:wv (ah,al)*k=ah*k*18446744073709551616+al*k:=by
    simp only[wv]
    rw[Int.add_mul,Int.mul_assoc,Int.mul_comm 18446744073709551616 k,←Int.mul_assoc]
  rw[e]
  generalize ah*k=p at *
  generalize al*k=q at *
  simp only[tif_and,tfd,tft,if_pos (show (0:Int)≤p % 18446744073709551616 by omega),if_pos (show (0:Int)≤q / 18446744073709551616 by omega),wide_sure_val,obs]
  have ho:=or_zero (p / 18446744073709551616) ((p % 18446744073709551616+q / 18446744073709551616+0) / 18446744073709551616) (by omega) (by omega)
  by_cases hc:p*18446744073709551616+q<340282366920938463463374607431768211456
  · rw[if_pos hc,if_pos (ho.2 (by omega))]
    simp only[mkW]
    congr 2
    exact Prod.ext (by simp only;omega) (by simp only;omega)
  · rw[if_neg hc,if_neg (fun h=>by have:=ho.1 h;omega)]
abbrev B16:=(Int×(Int×(Int×(Int×(Int×(Int×(Int×(Int×(Int×(Int×(Int×(Int×(Int×(Int×(Int×Int)))))))))))))))
def Byt (x:Int):Prop:=0≤x∧x≤255
theorem bytes8 (v:Int) (h:0≤v∧v≤18446744073709551615):∃x0 x1 x2 x3 x4 x5 x6 x7:Int,(Byt x0∧Byt x1∧Byt x2∧Byt x3∧Byt x4∧Byt x5∧Byt x6∧Byt x7)∧v=x0+x1*256+x2*65536+x3*16777216+x4*4294967296+x5*1099511627776+x6*281474976710656+x7*72057594037927936 ∧
    v % 256=x0∧v / 256 % 256=x1∧v / 65536 % 256=x2∧v / 16777216 % 256=x3∧v / 4294967296 % 256=x4∧v / 1099511627776 % 256=x5∧v / 281474976710656 % 256=x6∧v / 72057594037927936 % 256=x7:=by
  refine ⟨v % 256,v / 256 % 256,v / 65536 % 256,v / 16777216 % 256,v / 4294967296 % 256,v / 1099511627776 % 256,v / 281474976710656 % 256,v / 72057594037927936 % 256,?_,?_,rfl,rfl,rfl,rfl,rfl,rfl,rfl,rfl⟩
  · simp only[Byt];omega
  · have e2:v / 65536=v / 256 / 256:=by omega
    have e3:v / 16777216=v / 65536 / 256:=by omega
    have e4:v / 4294967296=v / 16777216 / 256:=by omega
    have e5:v / 1099511627776=v / 4294967296 / 256:=by omega
    have e6:v / 281474976710656=v / 1099511627776 / 256:=by omega
    have e7:v / 72057594037927936=v / 281474976710656 / 256:=by omega
    have e8:v / 72057594037927936 / 256=0:=by omega
    omega
theorem r01_bytes (n:Nat) {a:Wd} (ha:WdOk a):∃x0 x1 x2 x3 x4 x5 x6 x7 x8 x9 x10 x11 x12 x13 x14 x15:Int,r01_Bytes (n+1) a=some (x0,x1,x2,x3,x4,x5,x6,x7,x8,x9,x10,x11,x12,x13,x14,x15)∧(Byt x0∧Byt x1∧Byt x2∧Byt x3∧Byt x4∧Byt x5∧Byt x6∧Byt x7∧Byt x8∧Byt x9∧Byt x10∧Byt x11∧Byt x12∧Byt x13∧Byt x14∧Byt x15)∧a.2=x0+x1*256+x2*65536+x3*16777216+x4*4294967296+x5*1099511627776+x6*281474976710656+x7*72057594037927936∧a.1=x8+x9*256+x10*65536+x11*16777216+x12*4294967296+x13*1099511627776+x14*281474976710656+x15*72057594037927936:=by
  obtain ⟨x0,x1,x2,x3,x4,x5,x6,x7,⟨b0,b1,b2,b3,b4,b5,b6,b7⟩,hv,e0,e1,e2,e3,e4,e5,e6,e7⟩:=bytes8 a.2 ha.lo
  obtain ⟨x8,x9,x10,x11,x12,x13,x14,x15,⟨b8,b9,b10,b11,b12,b13,b14,b15⟩,hv',e8,e9,e10,e11,e12,e13,e14,e15⟩:=bytes8 a.1 ha.hi
  refine ⟨x0,x1,x2,x3,x4,x5,x6,x7,x8,x9,x10,x11,x12,x13,x14,x15,?_,⟨b0,b1,b2,b3,b4,b5,b6,b7,b8,b9,b10,b11,b12,b13,b14,b15⟩,hv,hv'⟩
  have an:∀z:Int,0≤z→z≤18446744073709551615→andI .u64 z (255:Int)=z % 256:=fun z h h'=>and_mask z 8 (by decide) h h'
  have s0:∀z:Int,shrI .u64 z (0:Int)=z / 1:=fun z=>shr_nat z 0 (by decide)
  have s1:∀z:Int,shrI .u64 z (8:Int)=z / 256:=fun z=>shr_nat z 8 (by decide)
  have s2:∀z:Int,shrI .u64 z (16:Int)=z / 65536:=fun z=>shr_nat z 16 (by decide)
  have s3:∀z:Int,shrI .u64 z (24:Int)=z / 16777216:=fun z=>shr_nat z 24 (by decide)
  have s4:∀z:Int,shrI .u64 z (32:Int)=z / 4294967296:=fun z=>shr_nat z 32 (by decide)
  have s5:∀z:Int,shrI .u64 z (40:Int)=z / 1099511627776:=fun z=>shr_nat z 40 (by decide)
  have s6:∀z:Int,shrI .u64 z (48:Int)=z / 281474976710656:=fun z=>shr_nat z 48 (by decide)
  have s7:∀z:Int,shrI .u64 z (56:Int)=z / 72057594037927936:=fun z=>shr_nat z 56 (by decide)
  have h1:=ha.lo
  have h2:=ha.hi
  rw[r01_Bytes_eq]
  simp only[s0,s1,s2,s3,s4,s5,s6,s7,Int.ediv_one]
  rw[an (a.2) (by omega) (by omega),e0,w64 (x:=x0) (by have:=b0.1;omega) (by have:=b0.2;omega)]
  rw[an (a.2 / 256) (by omega) (by omega),e1,w64 (x:=x1) (by have:=b1.1;omega) (by have:=b1.2;omega)]
  rw[an (a.2 / 65536) (by omega) (by omega),e2,w64 (x:=x2) (by have:=b2.1;omega) (by have:=b2.2;omega)]
  rw[an (a.2 / 16777216) (by omega) (by omega),e3,w64 (x:=x3) (by have:=b3.1;omega) (by have:=b3.2;omega)]
  rw[an (a.2 / 4294967296) (by omega) (by omega),e4,w64 (x:=x4) (by have:=b4.1;omega) (by have:=b4.2;omega)]
  rw[an (a.2 / 1099511627776) (by omega) (by omega),e5,w64 (x:=x5) (by have:=b5.1;omega) (by have:=b5.2;omega)]
  rw[an (a.2 / 281474976710656) (by omega) (by omega),e6,w64 (x:=x6) (by have:=b6.1;omega) (by have:=b6.2;omega)]
  rw[an (a.2 / 72057594037927936) (by omega) (by omega),e7,w64 (x:=x7) (by have:=b7.1;omega) (by have:=b7.2;omega)]
  rw[an (a.1) (by omega) (by omega),e8,w64 (x:=x8) (by have:=b8.1;omega) (by have:=b8.2;omega)]
  rw[an (a.1 / 256) (by omega) (by omega),e9,w64 (x:=x9) (by have:=b9.1;omega) (by have:=b9.2;omega)]
  rw[an (a.1 / 65536) (by omega) (by omega),e10,w64 (x:=x10) (by have:=b10.1;omega) (by have:=b10.2;omega)]
  rw[an (a.1 / 16777216) (by omega) (by omega),e11,w64 (x:=x11) (by have:=b11.1;omega) (by have:=b11.2;omega)]
  rw[an (a.1 / 4294967296) (by omega) (by omega),e12,w64 (x:=x12) (by have:=b12.1;omega) (by have:=b12.2;omega)]
  rw[an (a.1 / 1099511627776) (by omega) (by omega),e13,w64 (x:=x13) (by have:=b13.1;omega) (by have:=b13.2;omega)]
  rw[an (a.1 / 281474976710656) (by omega) (by omega),e14,w64 (x:=x14) (by have:=b14.1;omega) (by have:=b14.2;omega)]
  rw[an (a.1 / 72057594037927936) (by omega) (by omega),e15,w64 (x:=x15) (by have:=b15.1;omega) (by have:=b15.2;omega)]
theorem r01_of (n:Nat) {x0 x1 x2 x3 x4 x5 x6 x7 x8 x9 x10 x11 x12 x13 x14 x15:Int} (b0:Byt x0) (b1:Byt x1) (b2:Byt x2) (b3:Byt x3) (b4:Byt x4) (b5:Byt x5) (b6:Byt x6) (b7:Byt x7) (b8:Byt x8) (b9:Byt x9) (b10:Byt x10) (b11:Byt x11) (b12:Byt x12) (b13:Byt x13) (b14:Byt x14) (b15:Byt x15):r01_Of (n+1) (x0,x1,x2,x3,x4,x5,x6,x7,x8,x9,x10,x11,x12,x13,x14,x15)=some (x8+x9*256+x10*65536+x11*16777216+x12*4294967296+x13*1099511627776+x14*281474976710656+x15*72057594037927936,x0+x1*256+x2*65536+x3*16777216+x4*4294967296+x5*1099511627776+x6*281474976710656+x7*72057594037927936):=by
  rw[r01_Of_eq]
  simp only[Byt] at *
  have q0:orI .u64 ((0:Int)) (shlI .u64 (IntKind.wrap .u64 x0) (0:Int))=(0:Int)+x0*1:=or_add _ _ 0 (by decide) (by omega) (by show _<(1:Int);omega) b0.1 b0.2
  have q1:orI .u64 ((0:Int)+x0*1) (shlI .u64 (IntKind.wrap .u64 x1) (8:Int))=(0:Int)+x0*1+x1*256:=or_add _ _ 8 (by decide) (by omega) (by show _<(256:Int);omega) b1.1 b1.2
  have q2:orI .u64 ((0:Int)+x0*1+x1*256) (shlI .u64 (IntKind.wrap .u64 x2) (16:Int))=(0:Int)+x0*1+x1*256+x2*65536:=or_add _ _ 16 (by decide) (by omega) (by show _<(65536:Int);omega) b2.1 b2.2
  have q3:orI .u64 ((0:Int)+x0*1+x1*256+x2*65536) (shlI .u64 (IntKind.wrap .u64 x3) (24:Int))=(0:Int)+x0*1+x1*256+x2*65536+x3*16777216:=or_add _ _ 24 (by decide) (by omega) (by show _<(16777216:Int);omega) b3.1 b3.2
  have q4:orI .u64 ((0:Int)+x0*1+x1*256+x2*65536+x3*16777216) (shlI .u64 (IntKind.wrap .u64 x4) (32:Int))=(0:Int)+x0*1+x1*256+x2*65536+x3*16777216+x4*4294967296:=or_add _ _ 32 (by decide) (by omega) (by show _<(4294967296:Int);omega) b4.1 b4.2
  have q5:orI .u64 ((0:Int)+x0*1+x1*256+x2*65536+x3*16777216+x4*4294967296) (shlI .u64 (IntKind.wrap .u64 x5) (40:Int))=(0:Int)+x0*1+x1*256+x2*65536+x3*16777216+x4*4294967296+x5*1099511627776:=or_add _ _ 40 (by decide) (by omega) (by show _<(1099511627776:Int);omega) b5.1 b5.2
  have q6:orI .u64 ((0:Int)+x0*1+x1*256+x2*65536+x3*16777216+x4*4294967296+x5*1099511627776) (shlI .u64 (IntKind.wrap .u64 x6) (48:Int))=(0:Int)+x0*1+x1*256+x2*65536+x3*16777216+x4*4294967296+x5*1099511627776+x6*281474976710656:=or_add _ _ 48 (by decide) (by omega) (by show _<(281474976710656:Int);omega) b6.1 b6.2
  have q7:orI .u64 ((0:Int)+x0*1+x1*256+x2*65536+x3*16777216+x4*4294967296+x5*1099511627776+x6*281474976710656) (shlI .u64 (IntKind.wrap .u64 x7) (56:Int))=(0:Int)+x0*1+x1*256+x2*65536+x3*16777216+x4*4294967296+x5*1099511627776+x6*281474976710656+x7*72057594037927936:=or_add _ _ 56 (by decide) (by omega) (by show _<(72057594037927936:Int);omega) b7.1 b7.2
  have q8:orI .u64 ((0:Int)) (shlI .u64 (IntKind.wrap .u64 x8) (0:Int))=(0:Int)+x8*1:=or_add _ _ 0 (by decide) (by omega) (by show _<(1:Int);omega) b8.1 b8.2
  have q9:orI .u64 ((0:Int)+x8*1) (shlI .u64 (IntKind.wrap .u64 x9) (8:Int))=(0:Int)+x8*1+x9*256:=or_add _ _ 8 (by decide) (by omega) (by show _<(256:Int);omega) b9.1 b9.2
  have q10:orI .u64 ((0:Int)+x8*1+x9*256) (shlI .u64 (IntKind.wrap .u64 x10) (16:Int))=(0:Int)+x8*1+x9*256+x10*65536:=or_add _ _ 16 (by decide) (by omega) (by show _<(65536:Int);omega) b10.1 b10.2
  have q11:orI .u64 ((0:Int)+x8*1+x9*256+x10*65536) (shlI .u64 (IntKind.wrap .u64 x11) (24:Int))=(0:Int)+x8*1+x9*256+x10*65536+x11*16777216:=or_add _ _ 24 (by decide) (by omega) (by show _<(16777216:Int);omega) b11.1 b11.2
  have q12:orI .u64 ((0:Int)+x8*1+x9*256+x10*65536+x11*16777216) (shlI .u64 (IntKind.wrap .u64 x12) (32:Int))=(0:Int)+x8*1+x9*256+x10*65536+x11*16777216+x12*4294967296:=or_add _ _ 32 (by decide) (by omega) (by show _<(4294967296:Int);omega) b12.1 b12.2
  have q13:orI .u64 ((0:Int)+x8*1+x9*256+x10*65536+x11*16777216+x12*4294967296) (shlI .u64 (IntKind.wrap .u64 x13) (40:Int))=(0:Int)+x8*1+x9*256+x10*65536+x11*16777216+x12*4294967296+x13*1099511627776:=or_add _ _ 40 (by decide) (by omega) (by show _<(1099511627776:Int);omega) b13.1 b13.2
  have q14:orI .u64 ((0:Int)+x8*1+x9*256+x10*65536+x11*16777216+x12*4294967296+x13*1099511627776) (shlI .u64 (IntKind.wrap .u64 x14) (48:Int))=(0:Int)+x8*1+x9*256+x10*65536+x11*16777216+x12*4294967296+x13*1099511627776+x14*281474976710656:=or_add _ _ 48 (by decide) (by omega) (by show _<(281474976710656:Int);omega) b14.1 b14.2
  have q15:orI .u64 ((0:Int)+x8*1+x9*256+x10*65536+x11*16777216+x12*4294967296+x13*1099511627776+x14*281474976710656) (shlI .u64 (IntKind.wrap .u64 x15) (56:Int))=(0:Int)+x8*1+x9*256+x10*65536+x11*16777216+x12*4294967296+x13*1099511627776+x14*281474976710656+x15*72057594037927936:=or_add _ _ 56 (by decide) (by omega) (by show _<(72057594037927936:Int);omega) b15.1 b15.2
  rw[q8,q9,q10,q11,q12,q13,q14,q15,q0,q1,q2,q3,q4,q5,q6,q7]
  congr 2
  · omega
  · omega
theorem r01_less (n:Nat) {a b:Wd} (ha:WdOk a) (hb:WdOk b):r01_Less (n+2) a b=some (decide (wv a<wv b)):=by
  obtain ⟨x0,x1,x2,x3,x4,x5,x6,x7,x8,x9,x10,x11,x12,x13,x14,x15,hx,⟨b0,b1,b2,b3,b4,b5,b6,b7,b8,b9,b10,b11,b12,b13,b14,b15⟩,va,va'⟩:=r01_bytes n ha
  obtain ⟨y0,y1,y2,y3,y4,y5,y6,y7,y8,y9,y10,y11,y12,y13,y14,y15,hy,⟨d0,d1,d2,d3,d4,d5,d6,d7,d8,d9,d10,d11,d12,d13,d14,d15⟩,vb,vb'⟩:=r01_bytes n hb
  rw[r01_Less_eq,hx,hy]
  simp only[obs,tfn,tfd]
  simp only[Byt] at *
  have ea:wv a=a.1*18446744073709551616+a.2:=rfl
  have eb:wv b=b.1*18446744073709551616+b.2:=rfl
  rw[va,va'] at ea
  rw[vb,vb'] at eb
  clear va va' vb vb' hx hy ha hb
  generalize wv a=va at *
  generalize wv b=vb at *
  by_cases c15:x15=y15
  case neg=>rw[if_neg c15];congr 1;exact decide_eq_decide.2 (by omega)
  rw[if_pos c15]
  subst c15
  by_cases c14:x14=y14
  case neg=>rw[if_neg c14];congr 1;exact decide_eq_decide.2 (by omega)
  rw[if_pos c14]
  subst c14
  by_cases c13:x13=y13
  case neg=>rw[if_neg c13];congr 1;exact decide_eq_decide.2 (by omega)
  rw[if_pos c13]
  subst c13
  by_cases c12:x12=y12
  case neg=>rw[if_neg c12];congr 1;exact decide_eq_decide.2 (by omega)
  rw[if_pos c12]
  subst c12
  by_cases c11:x11=y11
  case neg=>rw[if_neg c11];congr 1;exact decide_eq_decide.2 (by omega)
  rw[if_pos c11]
  subst c11
  by_cases c10:x10=y10
  case neg=>rw[if_neg c10];congr 1;exact decide_eq_decide.2 (by omega)
  rw[if_pos c10]
  subst c10
  by_cases c9:x9=y9
  case neg=>rw[if_neg c9];congr 1;exact decide_eq_decide.2 (by omega)
  rw[if_pos c9]
  subst c9
  by_cases c8:x8=y8
  case neg=>rw[if_neg c8];congr 1;exact decide_eq_decide.2 (by omega)
  rw[if_pos c8]
  subst c8
  by_cases c7:x7=y7
  case neg=>rw[if_neg c7];congr 1;exact decide_eq_decide.2 (by omega)
  rw[if_pos c7]
  subst c7
  by_cases c6:x6=y6
  case neg=>rw[if_neg c6];congr 1;exact decide_eq_decide.2 (by omega)
  rw[if_pos c6]
  subst c6
  by_cases c5:x5=y5
  case neg=>rw[if_neg c5];congr 1;exact decide_eq_decide.2 (by omega)
  rw[if_pos c5]
  subst c5
  by_cases c4:x4=y4
  case neg=>rw[if_neg c4];congr 1;exact decide_eq_decide.2 (by omega)
  rw[if_pos c4]
  subst c4
  by_cases c3:x3=y3
  case neg=>rw[if_neg c3];congr 1;exact decide_eq_decide.2 (by omega)
  rw[if_pos c3]
  subst c3
  by_cases c2:x2=y2
  case neg=>rw[if_neg c2];congr 1;exact decide_eq_decide.2 (by omega)
  rw[if_pos c2]
  subst c2
  by_cases c1:x1=y1
  case neg=>rw[if_neg c1];congr 1;exact decide_eq_decide.2 (by omega)
  rw[if_pos c1]
  subst c1
  by_cases c0:x0=y0
  case neg=>rw[if_neg c0];congr 1;exact decide_eq_decide.2 (by omega)
  rw[if_pos c0]
  subst c0
  rw[decide_eq_false (by omega)]
def cN (x y m:Int):Int:=IntKind.wrap .i64 (Int.tdiv (IntKind.wrap .i64 ((IntKind.wrap .i64 (x+y))+m)) (256:Int))
def dN (x y m:Int):Int:=Int.tmod (IntKind.wrap .i64 ((IntKind.wrap .i64 (x+y))+m)) (256:Int)
theorem digit (x y m:Int) (hx:Byt x) (hy:Byt y) (hm:0≤m∧m≤1):(0≤cN x y m∧cN x y m≤1)∧Byt (dN x y m)∧x+y+m=256*cN x y m+dN x y m:=by
  obtain ⟨h1,h2⟩:=hx
  obtain ⟨h3,h4⟩:=hy
  unfold cN dN Byt
  rw[w64 (x:=x+y) (by omega) (by omega),w64 (x:=x+y+m) (by omega) (by omega),tdiv_nn (by omega),tmod_nn (by omega),w64 (by omega) (by omega)]
  omega
theorem r01_add (n:Nat) {a b:Wd} (ha:WdOk a) (hb:WdOk b):r01_Add (n+2) a b=some (addW a b):=by
  obtain ⟨x0,x1,x2,x3,x4,x5,x6,x7,x8,x9,x10,x11,x12,x13,x14,x15,hx,⟨b0,b1,b2,b3,b4,b5,b6,b7,b8,b9,b10,b11,b12,b13,b14,b15⟩,va,va'⟩:=r01_bytes n ha
  obtain ⟨y0,y1,y2,y3,y4,y5,y6,y7,y8,y9,y10,y11,y12,y13,y14,y15,hy,⟨d0,d1,d2,d3,d4,d5,d6,d7,d8,d9,d10,d11,d12,d13,d14,d15⟩,vb,vb'⟩:=r01_bytes n hb
  rw[r01_Add_eq,hx,hy]
  simp only[obs]
  show tif (decide ((0:Int)<(cN x15 y15 (cN x14 y14 (cN x13 y13 (cN x12 y12 (cN x11 y11 (cN x10 y10 (cN x9 y9 (cN x8 y8 (cN x7 y7 (cN x6 y6 (cN x5 y5 (cN x4 y4 (cN x3 y3 (cN x2 y2 (cN x1 y1 (cN x0 y0 (0:Int))))))))))))))))))) (some (((0:Int),(0:Int)),(1:Int))) (obind (r01_Of (n+1) (dN x0 y0 (0:Int),dN x1 y1 (cN x0 y0 (0:Int)),dN x2 y2 (cN x1 y1 (cN x0 y0 (0:Int))),dN x3 y3 (cN x2 y2 (cN x1 y1 (cN x0 y0 (0:Int)))),dN x4 y4 (cN x3 y3 (cN x2 y2 (cN x1 y1 (cN x0 y0 (0:Int))))),dN x5 y5 (cN x4 y4 (cN x3 y3 (cN x2 y2 (cN x1 y1 (cN x0 y0 (0:Int)))))),dN x6 y6 (cN x5 y5 (cN x4 y4 (cN x3 y3 (cN x2 y2 (cN x1 y1 (cN x0 y0 (0:Int))))))),dN x7 y7 (cN x6 y6 (cN x5 y5 (cN x4 y4 (cN x3 y3 (cN x2 y2 (cN x1 y1 (cN x0 y0 (0:Int)))))))),dN x8 y8 (cN x7 y7 (cN x6 y6 (cN x5 y5 (cN x4 y4 (cN x3 y3 (cN x2 y2 (cN x1 y1 (cN x0 y0 (0:Int))))))))),dN x9 y9 (cN x8 y8 (cN x7 y7 (cN x6 y6 (cN x5 y5 (cN x4 y4 (cN x3 y3 (cN x2 y2 (cN x1 y1 (cN x0 y0 (0:Int)))))))))),dN x10 y10 (cN x9 y9 (cN x8 y8 (cN x7 y7 (cN x6 y6 (cN x5 y5 (cN x4 y4 (cN x3 y3 (cN x2 y2 (cN x1 y1 (cN x0 y0 (0:Int))))))))))),dN x11 y11 (cN x10 y10 (cN x9 y9 (cN x8 y8 (cN x7 y7 (cN x6 y6 (cN x5 y5 (cN x4 y4 (cN x3 y3 (cN x2 y2 (cN x1 y1 (cN x0 y0 (0:Int)))))))))))),dN x12 y12 (cN x11 y11 (cN x10 y10 (cN x9 y9 (cN x8 y8 (cN x7 y7 (cN x6 y6 (cN x5 y5 (cN x4 y4 (cN x3 y3 (cN x2 y2 (cN x1 y1 (cN x0 y0 (0:Int))))))))))))),dN x13 y13 (cN x12 y12 (cN x11 y11 (cN x10 y10 (cN x9 y9 (cN x8 y8 (cN x7 y7 (cN x6 y6 (cN x5 y5 (cN x4 y4 (cN x3 y3 (cN x2 y2 (cN x1 y1 (cN x0 y0 (0:Int)))))))))))))),dN x14 y14 (cN x13 y13 (cN x12 y12 (cN x11 y11 (cN x10 y10 (cN x9 y9 (cN x8 y8 (cN x7 y7 (cN x6 y6 (cN x5 y5 (cN x4 y4 (cN x3 y3 (cN x2 y2 (cN x1 y1 (cN x0 y0 (0:Int))))))))))))))),dN x15 y15 (cN x14 y14 (cN x13 y13 (cN x12 y12 (cN x11 y11 (cN x10 y10 (cN x9 y9 (cN x8 y8 (cN x7 y7 (cN x6 y6 (cN x5 y5 (cN x4 y4 (cN x3 y3 (cN x2 y2 (cN x1 y1 (cN x0 y0 (0:Int)))))))))))))))))) fun r2=>some (r2,(0:Int)))=_
  obtain ⟨k0,g0,z0⟩:=digit x0 y0 (0:Int) b0 d0 (by omega)
  generalize cN x0 y0 (0:Int)=c0 at *
  generalize dN x0 y0 (0:Int)=t0 at *
  obtain ⟨k1,g1,z1⟩:=digit x1 y1 c0 b1 d1 (by omega)
  generalize cN x1 y1 c0=c1 at *
  generalize dN x1 y1 c0=t1 at *
  obtain ⟨k2,g2,z2⟩:=digit x2 y2 c1 b2 d2 (by omega)
  generalize cN x2 y2 c1=c2 at *
  generalize dN x2 y2 c1=t2 at *
  obtain ⟨k3,g3,z3⟩:=digit x3 y3 c2 b3 d3 (by omega)
  generalize cN x3 y3 c2=c3 at *
  generalize dN x3 y3 c2=t3 at *
  obtain ⟨k4,g4,z4⟩:=digit x4 y4 c3 b4 d4 (by omega)
  generalize cN x4 y4 c3=c4 at *
  generalize dN x4 y4 c3=t4 at *
  obtain ⟨k5,g5,z5⟩:=digit x5 y5 c4 b5 d5 (by omega)
  generalize cN x5 y5 c4=c5 at *
  generalize dN x5 y5 c4=t5 at *
  obtain ⟨k6,g6,z6⟩:=digit x6 y6 c5 b6 d6 (by omega)
  generalize cN x6 y6 c5=c6 at *
  generalize dN x6 y6 c5=t6 at *
  obtain ⟨k7,g7,z7⟩:=digit x7 y7 c6 b7 d7 (by omega)
  generalize cN x7 y7 c6=c7 at *
  generalize dN x7 y7 c6=t7 at *
  obtain ⟨k8,g8,z8⟩:=digit x8 y8 c7 b8 d8 (by omega)
  generalize cN x8 y8 c7=c8 at *
  generalize dN x8 y8 c7=t8 at *
  obtain ⟨k9,g9,z9⟩:=digit x9 y9 c8 b9 d9 (by omega)
  generalize cN x9 y9 c8=c9 at *
  generalize dN x9 y9 c8=t9 at *
  obtain ⟨k10,g10,z10⟩:=digit x10 y10 c9 b10 d10 (by omega)
  generalize cN x10 y10 c9=c10 at *
  generalize dN x10 y10 c9=t10 at *
  obtain ⟨k11,g11,z11⟩:=digit x11 y11 c10 b11 d11 (by omega)
  generalize cN x11 y11 c10=c11 at *
  generalize dN x11 y11 c10=t11 at *
  obtain ⟨k12,g12,z12⟩:=digit x12 y12 c11 b12 d12 (by omega)
  generalize cN x12 y12 c11=c12 at *
  generalize dN x12 y12 c11=t12 at *
  obtain ⟨k13,g13,z13⟩:=digit x13 y13 c12 b13 d13 (by omega)
  generalize cN x13 y13 c12=c13 at *
  generalize dN x13 y13 c12=t13 at *
  obtain ⟨k14,g14,z14⟩:=digit x14 y14 c13 b14 d14 (by omega)
  generalize cN x14 y14 c13=c14 at *
  generalize dN x14 y14 c13=t14 at *
  obtain ⟨k15,g15,z15⟩:=digit x15 y15 c14 b15 d15 (by omega)
  generalize cN x15 y15 c14=c15 at *
  generalize dN x15 y15 c14=t15 at *
  rw[r01_of n g0 g1 g2 g3 g4 g5 g6 g7 g8 g9 g10 g11 g12 g13 g14 g15]
  simp only[tfd,obs]
  have e:wv a+wv b=c15*340282366920938463463374607431768211456+((t8+t9*256+t10*65536+t11*16777216+t12*4294967296+t13*1099511627776+t14*281474976710656+t15*72057594037927936)*18446744073709551616+(t0+t1*256+t2*65536+t3*16777216+t4*4294967296+t5*1099511627776+t6*281474976710656+t7*72057594037927936)):=by
    simp only[wv];omega
  have r1:0≤t8+t9*256+t10*65536+t11*16777216+t12*4294967296+t13*1099511627776+t14*281474976710656+t15*72057594037927936∧t8+t9*256+t10*65536+t11*16777216+t12*4294967296+t13*1099511627776+t14*281474976710656+t15*72057594037927936≤18446744073709551615:=by simp only[Byt] at *;omega
  have r2:0≤t0+t1*256+t2*65536+t3*16777216+t4*4294967296+t5*1099511627776+t6*281474976710656+t7*72057594037927936∧t0+t1*256+t2*65536+t3*16777216+t4*4294967296+t5*1099511627776+t6*281474976710656+t7*72057594037927936≤18446744073709551615:=by simp only[Byt] at *;omega
  generalize t8+t9*256+t10*65536+t11*16777216+t12*4294967296+t13*1099511627776+t14*281474976710656+t15*72057594037927936=hi at *
  generalize t0+t1*256+t2*65536+t3*16777216+t4*4294967296+t5*1099511627776+t6*281474976710656+t7*72057594037927936=lo at *
  clear va va' vb vb'
  unfold addW
  by_cases hc:(0:Int)<c15
  · rw[if_pos hc,if_neg (by omega)]
  · rw[if_neg hc,if_pos (by omega)]
    simp only[mkW]
    refine congrArg (fun z=>some (z,(0:Int))) (Prod.ext ?_ ?_)
    · simp only;omega
    · simp only;omega
theorem at_mid {α:Type} {l pre rest:List α} {x:α} {i:Int} (h:l=pre++x::rest) (hi:i=pre.length):at? l i=some x:=by
  subst h hi;simp[at?]
theorem idx {α:Type} {l pre rest:List α} {x:α} {i len:Int} (h:l=pre++x::rest) (hi:i=pre.length) (hn:len=l.length):i<len:=by
  have:=congrArg List.length h
  simp at this
  omega
theorem idxe {α:Type} {l pre:List α} {i len:Int} (h:l=pre++[]) (hi:i=pre.length) (hn:len=l.length):¬(i<len):=by
  have:=congrArg List.length h
  simp at this
  omega
theorem idxw {α:Type} {l pre rest:List α} {x:α} {i:Int} (h:l=pre++x::rest) (hi:i=pre.length) (hL:l.length≤1000000000000):IntKind.wrap .i64 (i+1)=i+1:=by
  have:=congrArg List.length h
  simp at this
  rw[w64 (by omega) (by omega)]
theorem idxs {α:Type} {pre:List α} {x:α} {i:Int} (hi:i=pre.length):i+1=((pre++[x]).length:Int):=by simp;omega
theorem idxl {α:Type} {l pre rest:List α} {x:α} (h:l=pre++x::rest):l=(pre++[x])++rest:=by rw[h];simp
theorem evEq (a b:Ev):((decide (a.1=b.1))&&((decide (a.2.1=b.2.1))&&((decide (a.2.2.1=b.2.2.1))&&(a.2.2.2==b.2.2.2))))=decide (a=b):=by
  rw[Bool.eq_iff_iff];simp[Prod.ext_iff]
theorem celEq (a b:Cel):((decide (a.1=b.1))&&((decide (a.2.1.1=b.2.1.1))&&((decide (a.2.1.2.1=b.2.1.2.1))&&((decide (a.2.1.2.2.1=b.2.1.2.2.1))&&((a.2.1.2.2.2==b.2.1.2.2.2)&&((decide (a.2.2.1.1=b.2.2.1.1))&&((decide (a.2.2.1.2.1=b.2.2.1.2.1))&&((decide (a.2.2.1.2.2.1=b.2.2.1.2.2.1))&&((a.2.2.1.2.2.2==b.2.2.1.2.2.2)&&((decide (a.2.2.2.1.1=b.2.2.2.1.1))&&((decide (a.2.2.2.1.2=b.2.2.2.1.2))&&((decide (a.2.2.2.2.1=b.2.2.2.2.1))&&((decide (a.2.2.2.2.2.1=b.2.2.2.2.2.1))&&(decide (a.2.2.2.2.2.2=b.2.2.2.2.2.2)))))))))))))))=decide (a=b):=by
  rw[Bool.eq_iff_iff];simp[Prod.ext_iff];grind
theorem celEq0 (a:Cel):((decide (a.1=(0:Int)))&&((decide (a.2.1.1=(0:Int)))&&((decide (a.2.1.2.1=(0:Int)))&&((decide (a.2.1.2.2.1=(0:Int)))&&((a.2.1.2.2.2==false)&&((decide (a.2.2.1.1=(0:Int)))&&((decide (a.2.2.1.2.1=(0:Int)))&&((decide (a.2.2.1.2.2.1=(0:Int)))&&((a.2.2.1.2.2.2==false)&&((decide (a.2.2.2.1.1=(0:Int)))&&((decide (a.2.2.2.1.2=(0:Int)))&&((decide (a.2.2.2.2.1=(0:Int)))&&((decide (a.2.2.2.2.2.1=(0:Int)))&&(decide (a.2.2.2.2.2.2=(0:Int))))))))))))))))=decide (a=z0):=celEq a z0
def I64 (x:Int):Prop := -9223372036854775808≤x∧x≤9223372036854775807
structure EvW (e:Ev):Prop where
  t:I64 e.1
  v:0≤e.2.1∧e.2.1≤18446744073709551615
  c:I64 e.2.2.1
structure CelW (c:Cel):Prop where
  n:I64 c.1
  f:EvW c.2.1
  l:EvW c.2.2.1
  w:WdOk c.2.2.2.1
  r:I64 c.2.2.2.2.1
  g:I64 c.2.2.2.2.2.1
  s:I64 c.2.2.2.2.2.2
theorem EvW.of {e:Ev} (h:EvOk e):EvW e:=by
  obtain ⟨a,b,c,d,f,g,_⟩:=h
  exact ⟨by unfold I64;omega,⟨c,d⟩,by unfold I64;omega⟩
theorem CelW.ofN {c:Cel} (h:CellN c):CelW c:=by
  have:=h.small;have:=h.n1;have:=h.f.t0;have:=h.f.t1;have:=h.l.t0;have:=h.l.t1;have:=h.r;have:=h.g;have:=h.rg;have:=h.s0;have:=h.s1
  exact ⟨by unfold I64;omega,.of h.f,.of h.l,h.w,by unfold I64;omega,by unfold I64;omega,by unfold I64;omega⟩
theorem celW_z0:CelW z0:=⟨by simp[I64,z0],⟨by simp[I64,z0,e0],by simp[z0,e0],by simp[I64,z0,e0]⟩,⟨by simp[I64,z0,e0],by simp[z0,e0],by simp[I64,z0,e0]⟩,⟨by simp[z0],by simp[z0]⟩,by simp[I64,z0],by simp[I64,z0],by simp[I64,z0]⟩
theorem CelW.of {c:Cel} (h:CellOk c):CelW c:=by
  rcases h with rfl | h
  · exact celW_z0
  · exact .ofN h
def sumW (l:List Wd):Int:=(l.map wv).sum
theorem sumW_nn {l:List Wd} (h:∀x∈l,WdOk x):0≤sumW l:=by
  induction l with
  | nil=>simp[sumW]
  | cons x l ih =>
    have:=ih fun y hy=>h y (by simp[hy])
    have:=wv_range (h x (by simp))
    simp only[sumW,List.map_cons,List.sum_cons] at *
    omega
theorem wide_sum_l (n:Nat) (s2:Wd) (l:List Wd) (hL:l.length≤1000000000000) (hok:∀x∈l,WdOk x):∀(rest pre:List Wd) (f:Nat) (a:Wd) (i len:Int),l=pre++rest→i=pre.length→len=l.length→rest.length<f→WdOk a→wv a+sumW rest<340282366920938463463374607431768211456 →
    wide_Sum_l3 (n+2) f (s2,a,l,len,i,())=some (.inl (s2,mkW (wv a+sumW rest),())):=by
  intro rest
  induction rest with
  | nil =>
    intro pre f a i len hl hi hn hf ha hs
    obtain ⟨f,rfl⟩:∃g,f=g+1:=⟨f-1,by simp at hf;omega⟩
    rw[wide_Sum_l3_eq]
    have:=idxe hl hi hn
    simp only[tfd,if_neg this,sumW,List.map_nil,List.sum_nil,Int.add_zero,mkW_wv ha]
  | cons x rest ih =>
    intro pre f a i len hl hi hn hf ha hs
    obtain ⟨f,rfl⟩:∃g,f=g+1:=⟨f-1,by simp at hf;omega⟩
    rw[wide_Sum_l3_eq]
    have hlt:=idx hl hi hn
    have hxo:WdOk x:=hok x (by rw[hl];simp)
    have hr:=sumW_nn (l:=rest) fun y hy=>hok y (by rw[hl];simp[hy])
    have hx:=wv_range hxo
    have hb:=wv_range ha
    have es:sumW (x::rest)=wv x+sumW rest:=by simp[sumW]
    rw[es] at hs
    have ew:addW a x=(mkW (wv a+wv x),0):=if_pos (by omega)
    simp only[tfd,tfn,if_pos hlt,at_mid hl hi,obs,wide_add n ha hxo,ew,if_pos trivial]
    rw[idxw hl hi hL]
    rw[ih (pre++[x]) f (mkW (wv a+wv x)) (i+1) len (idxl hl) (idxs hi) hn (by simp at hf;omega) (mkW_ok (by omega) (by omega)) (by rw[wv_mkW];omega),wv_mkW,es]
    rw[show wv a+wv x+sumW rest=wv a+(wv x+sumW rest) by omega]
theorem wide_sum (n:Nat) (l:List Wd) (hL:l.length≤1000000000000) (hok:∀x∈l,WdOk x) (hs:sumW l<340282366920938463463374607431768211456):wide_Sum (n+3) l=some (mkW (sumW l),0):=by
  rw[wide_Sum_eq,wide_sum_l n (0,0) l hL hok l [] loopFuel (0,0) 0 l.length rfl rfl rfl (by unfold loopFuel;omega) ⟨by simp,by simp⟩ (by simpa [wv_zero] using hs)]
  simp[wv_zero]
theorem r01_sum_l (n:Nat) (s2:Wd) (l:List Wd) (hL:l.length≤1000000000000) (hok:∀x∈l,WdOk x):∀(rest pre:List Wd) (f:Nat) (a:Wd) (i len:Int),l=pre++rest→i=pre.length→len=l.length→rest.length<f→WdOk a→wv a+sumW rest<340282366920938463463374607431768211456 →
    r01_Sum_l3 (n+2) f (s2,a,l,len,i,())=some (.inl (s2,mkW (wv a+sumW rest),())):=by
  intro rest
  induction rest with
  | nil =>
    intro pre f a i len hl hi hn hf ha hs
    obtain ⟨f,rfl⟩:∃g,f=g+1:=⟨f-1,by simp at hf;omega⟩
    rw[r01_Sum_l3_eq]
    have:=idxe hl hi hn
    simp only[tfd,if_neg this,sumW,List.map_nil,List.sum_nil,Int.add_zero,mkW_wv ha]
  | cons x rest ih =>
    intro pre f a i len hl hi hn hf ha hs
    obtain ⟨f,rfl⟩:∃g,f=g+1:=⟨f-1,by simp at hf;omega⟩
    rw[r01_Sum_l3_eq]
    have hlt:=idx hl hi hn
    have hxo:WdOk x:=hok x (by rw[hl];simp)
    have hr:=sumW_nn (l:=rest) fun y hy=>hok y (by rw[hl];simp[hy])
    have hx:=wv_range hxo
    have hb:=wv_range ha
    have es:sumW (x::rest)=wv x+sumW rest:=by simp[sumW]
    rw[es] at hs
    have ew:addW a x=(mkW (wv a+wv x),0):=if_pos (by omega)
    simp only[tfd,tfn,if_pos hlt,at_mid hl hi,obs,r01_add n ha hxo,ew,if_pos trivial]
    rw[idxw hl hi hL]
    rw[ih (pre++[x]) f (mkW (wv a+wv x)) (i+1) len (idxl hl) (idxs hi) hn (by simp at hf;omega) (mkW_ok (by omega) (by omega)) (by rw[wv_mkW];omega),wv_mkW,es]
    rw[show wv a+wv x+sumW rest=wv a+(wv x+sumW rest) by omega]
theorem r01_sum (n:Nat) (l:List Wd) (hL:l.length≤1000000000000) (hok:∀x∈l,WdOk x) (hs:sumW l<340282366920938463463374607431768211456):r01_Sum (n+3) l=some (mkW (sumW l),0):=by
  rw[r01_Sum_eq,r01_sum_l n (0,0) l hL hok l [] loopFuel (0,0) 0 l.length rfl rfl rfl (by unfold loopFuel;omega) ⟨by simp,by simp⟩ (by simpa [wv_zero] using hs)]
  simp[wv_zero]
theorem r01_times_over (n:Nat) (s4 out:Wd):∀(k f:Nat) (m:Int) (a:Wd),m≤k→k<f→0<m→m≤18446744073709551615→WdOk a→r01_Times_l4 (n+2) f (m,a,s4,out,true,())=some (.inr ((0,0),1)):=by
  intro k
  induction k with
  | zero=>intro f m a h1 h2 h3;omega
  | succ k ih =>
    intro f m a h1 h2 h3 h4 ha
    obtain ⟨f,rfl⟩:∃g,f=g+1:=⟨f-1,by omega⟩
    rw[r01_Times_l4_eq]
    simp only[tfd,if_pos h3,tmod_nn (a:=m) (by omega),tft]
    by_cases c:m % 2=1
    · rw[if_pos c]
    · rw[if_neg c,r01_add n ha ha]
      simp only[obs]
      rw[tdiv_nn (by omega),wu64 (by omega) (by omega)]
      exact ih f (m / 2) (addW a a).1 (by omega) (by omega) (by omega) (by omega) (by
        unfold addW;have:=wv_range ha
        split
        · exact mkW_ok (by omega) (by omega)
        · exact ⟨by simp,by simp⟩)
theorem r01_times_l (n:Nat) (s4:Wd):∀(k f:Nat) (m:Int) (a out:Wd),m≤k→k<f→0≤m→m≤18446744073709551615→WdOk a→WdOk out→∀p,p=wv a*m →
    r01_Times_l4 (n+2) f (m,a,s4,out,false,())=some (if wv out+p<340282366920938463463374607431768211456 then .inl (s4,mkW (wv out+p),()) else .inr ((0,0),1)):=by
  intro k
  induction k with
  | zero =>
    intro f m a out h1 h2 h3 h4 ha ho p hp
    obtain ⟨f,rfl⟩:∃g,f=g+1:=⟨f-1,by omega⟩
    obtain rfl:m=0:=by omega
    rw[r01_Times_l4_eq]
    have:=wv_range ho
    rw[Int.mul_zero] at hp
    subst hp
    simp only[tfd,if_neg (show ¬((0:Int)<0) by omega),Int.add_zero]
    rw[if_pos (by omega),mkW_wv ho]
  | succ k ih =>
    intro f m a out h1 h2 h3 h4 ha ho p hp
    obtain ⟨f,rfl⟩:∃g,f=g+1:=⟨f-1,by omega⟩
    rw[r01_Times_l4_eq]
    have ra:=wv_range ha
    have ro:=wv_range ho
    by_cases h0:0<m
    · have hp0:0≤p:=by rw[hp];exact Int.mul_nonneg ra.1 h3
      have hq:wv a*m=2*(wv a*(m / 2))+wv a*(m % 2):=by
        have e:m=2*(m / 2)+m % 2:=by omega
        conv=>lhs;rw[e,Int.mul_add,Int.mul_left_comm]
      have hq0:0≤wv a*(m / 2):=Int.mul_nonneg ra.1 (by omega)
      have hq1:1≤m / 2→wv a≤wv a*(m / 2):=fun h=>by
        have:=Int.mul_le_mul_of_nonneg_left h ra.1
        omega
      have hz:m / 2=0→wv a*(m / 2)=0:=fun h=>by rw[h,Int.mul_zero]
      rw[←hp] at hq
      have next:∀out':Wd,WdOk out'→obind (some (addW a a)) (fun r1=>tif false (r01_Times_l4 (n+2) f (IntKind.wrap .u64 (Int.tdiv m 2),r1.1,s4,out',true,())) (r01_Times_l4 (n+2) f (IntKind.wrap .u64 (Int.tdiv m 2),r1.1,s4,out',!(decide (r1.2=(0:Int))),()))) =
          some (if wv out'+2*(wv a*(m / 2))<340282366920938463463374607431768211456 then .inl (s4,mkW (wv out'+2*(wv a*(m / 2))),()) else .inr ((0,0),1)):=by
        intro out' ho'
        have ro':=wv_range ho'
        rw[tdiv_nn (by omega),wu64 (by omega) (by omega)]
        simp only[obs,tff]
        by_cases hov:wv a+wv a<340282366920938463463374607431768211456
        · have ew:addW a a=(mkW (wv a+wv a),0):=if_pos hov
          rw[ew]
          have:=ih f (m / 2) (mkW (wv a+wv a)) out' (by omega) (by omega) (by omega) (by omega) (mkW_ok (by omega) hov) ho' (2*(wv a*(m / 2))) (by rw[wv_mkW,←Int.two_mul,Int.mul_assoc])
          simpa using this
        · have ew:addW a a=((0,0),1):=if_neg hov
          rw[ew]
          by_cases hm:0<m / 2
          · have:=r01_times_over n s4 out' k f (m / 2) (0,0) (by omega) (by omega) hm (by omega) ⟨by simp,by simp⟩
            have:=hq1 (by omega)
            rw[if_neg (by omega)]
            simpa using by assumption
          · obtain ⟨f,rfl⟩:∃g,f=g+1:=⟨f-1,by omega⟩
            have e0:m / 2=0:=by omega
            rw[hz e0,e0,r01_Times_l4_eq]
            simp only[tfd,if_neg (show ¬((0:Int)<0) by omega),Int.mul_zero,Int.add_zero]
            rw[if_pos (by omega),mkW_wv ho']
      simp only[tfd,if_pos h0,tmod_nn (a:=m) (by omega),tff]
      by_cases c:m % 2=1
      · rw[if_pos c,r01_add n ho ha]
        rw[c,Int.mul_one] at hq
        by_cases hov:wv out+wv a<340282366920938463463374607431768211456
        · have ew:addW out a=(mkW (wv out+wv a),0):=if_pos hov
          rw[ew]
          have:=next (mkW (wv out+wv a)) (mkW_ok (by omega) hov)
          rw[wv_mkW] at this
          rw[r01_add n ha ha]
          simp only[tff] at this
          simp only[obs,tfn,tfd,if_pos trivial,tff] at this ⊢
          rw[this,hq]
          rw[show wv out+(2*(wv a*(m / 2))+wv a)=wv out+wv a+2*(wv a*(m / 2)) by omega]
        · have ew:addW out a=((0,0),1):=if_neg hov
          rw[ew]
          simp only[obs,tfn,tfd]
          rw[if_neg (by decide),if_neg (by omega)]
      · rw[if_neg c,r01_add n ha ha]
        have c0:m % 2=0:=by omega
        rw[c0,Int.mul_zero,Int.add_zero] at hq
        have:=next out ho
        simp only[tff] at this
        simp only[obs] at this ⊢
        rw[this,hq]
    · obtain rfl:m=0:=by omega
      rw[Int.mul_zero] at hp
      subst hp
      simp only[tfd,if_neg (show ¬((0:Int)<0) by omega),Int.add_zero]
      rw[if_pos (by omega),mkW_wv ho]
theorem r01_times (n:Nat) {a:Wd} (ha:WdOk a) (k:Int) (hk:0≤k∧k≤18446744073709551615):r01_Times (n+3) a k=some (timesW a k):=by
  rw[r01_Times_eq,r01_times_l n (0,0) 18446744073709551615 loopFuel k a (0,0) (by omega) (by unfold loopFuel;omega) hk.1 hk.2 ha ⟨by simp,by simp⟩ _ rfl]
  simp only[wv_zero,Int.zero_add,obs]
  unfold timesW
  by_cases h:wv a*k<340282366920938463463374607431768211456
  · rw[if_pos h,if_pos h];simp
  · rw[if_neg h,if_neg h];simp
theorem event_check (n:Nat) {e:Ev} (h:EvW e):event_Check (n+1) e=some (if EvOk e then 0 else 2):=by
  obtain ⟨_,hv,_⟩:=h
  rw[event_Check_eq]
  simp only[tfd]
  by_cases h1:e.1<0
  · rw[if_pos h1,if_neg (fun k=>by have:=k.t0;omega)]
  by_cases h2:(35184372088832:Int)≤e.1
  · rw[if_neg h1,if_pos h2,if_neg (fun k=>by have:=k.t1;omega)]
  by_cases h3:e.2.2.1<0
  · rw[if_neg h1,if_neg h2,if_pos h3,if_neg (fun k=>by have:=k.c0;omega)]
  by_cases h4:e.1<e.2.2.1
  · rw[if_neg h1,if_neg h2,if_neg h3,if_pos h4,if_neg (fun k=>by have:=k.c1;omega)]
  rw[if_neg h1,if_neg h2,if_neg h3,if_neg h4]
  cases h5:e.2.2.2 with
  | false =>
    rw[tff,if_pos ⟨by omega,by omega,hv.1,hv.2,by omega,by omega,fun k=>by rw[h5] at k;cases k⟩]
  | true =>
    rw[tft]
    by_cases h6:e.2.1=0∧e.2.2.1=0
    · rw[if_pos ⟨by omega,by omega,hv.1,hv.2,by omega,by omega,fun _=>h6⟩]
      simp[h6]
    · rw[if_neg (fun k=>h6 (k.st h5))]
      by_cases h7:e.2.1=0
      · have h8:¬(e.2.2.1=0):=fun k=>h6 ⟨h7,k⟩
        simp[h7,h8]
      · simp[h7]
theorem r07_check (n:Nat) {e:Ev} (h:EvW e):r07_Check (n+1) e=some (if EvOk e then 0 else 2):=by
  obtain ⟨_,hv,_⟩:=h
  rw[r07_Check_eq]
  simp only[tfd,tfn]
  by_cases h1:e.1<0
  · rw[if_pos h1,if_neg (fun k=>by have:=k.t0;omega)]
  by_cases h2:(35184372088832:Int)≤e.1
  · rw[if_neg h1,if_pos h2,if_neg (fun k=>by have:=k.t1;omega)]
  by_cases h3:e.2.2.1<0
  · rw[if_neg h1,if_neg h2,if_pos h3,if_neg (fun k=>by have:=k.c0;omega)]
  by_cases h4:e.1<e.2.2.1
  · rw[if_neg h1,if_neg h2,if_neg h3,if_pos h4,if_neg (fun k=>by have:=k.c1;omega)]
  rw[if_neg h1,if_neg h2,if_neg h3,if_neg h4]
  cases h5:e.2.2.2 with
  | false =>
    rw[tff,if_pos ⟨by omega,by omega,hv.1,hv.2,by omega,by omega,fun k=>by rw[h5] at k;cases k⟩]
  | true =>
    rw[tft]
    by_cases h6:e.2.1=0∧e.2.2.1=0
    · rw[if_pos h6.1,if_pos h6.2,if_pos ⟨by omega,by omega,hv.1,hv.2,by omega,by omega,fun _=>h6⟩]
    · by_cases h7:e.2.1=0
      · have h8:¬(e.2.2.1=0):=fun k=>h6 ⟨h7,k⟩
        rw[if_pos h7,if_neg h8,if_neg (fun k=>h6 (k.st h5))]
      · rw[if_neg h7,if_neg (fun k=>h6 (k.st h5))]
theorem zif (p:Prop) [Decidable p]:decide ((if p then (0:Int) else 2)=0)=decide p:=by by_cases h:p<;>simp[h]
theorem event_right_l (n:Nat) (l:List Ev) (hL:l.length≤1000000000000) (hw:∀e∈l,EvW e):∀(rest pre:List Ev) (f:Nat) (i len:Int),l=pre++rest→i=pre.length→len=l.length→rest.length<f →
    event_right_l2 (n+1) f (l,len,i,())=some (if ∀e∈rest,EvOk e then .inl () else .inr false):=by
  intro rest
  induction rest with
  | nil =>
    intro pre f i len hl hi hn hf
    obtain ⟨f,rfl⟩:∃g,f=g+1:=⟨f-1,by simp at hf;omega⟩
    rw[event_right_l2_eq]
    have:=idxe hl hi hn
    simp[tfd,if_neg this]
  | cons x rest ih =>
    intro pre f i len hl hi hn hf
    obtain ⟨f,rfl⟩:∃g,f=g+1:=⟨f-1,by simp at hf;omega⟩
    rw[event_right_l2_eq]
    have hlt:=idx hl hi hn
    have hx:EvW x:=hw x (by rw[hl];simp)
    simp only[tfd,tfn,if_pos hlt,at_mid hl hi,obs,event_check n hx,idxw hl hi hL]
    by_cases ho:EvOk x
    · rw[if_pos ho,if_pos rfl,ih (pre++[x]) f (i+1) len (idxl hl) (idxs hi) hn (by simp at hf;omega)]
      have e:(∀e∈x::rest,EvOk e)↔(∀e∈rest,EvOk e):=by simp[ho]
      by_cases hr:∀e∈rest,EvOk e
      · rw[if_pos hr,if_pos (e.2 hr)]
      · rw[if_neg hr,if_neg (fun k=>hr (e.1 k))]
    · have h2:¬(∀e∈x::rest,EvOk e):=fun k=>ho (k x (by simp))
      rw[if_neg ho,if_neg (by decide),if_neg h2]
theorem event_right_val (n:Nat) (l:List Ev) (hL:l.length≤1000000000000) (hw:∀e∈l,EvW e):event_right (n+2) l=some (decide (∀e∈l,EvOk e)):=by
  rw[event_right_eq,event_right_l n l hL hw l [] loopFuel 0 l.length rfl rfl rfl (by unfold loopFuel;omega)]
  by_cases h:∀e∈l,EvOk e
  · rw[if_pos h,decide_eq_true h];simp
  · rw[if_neg h,decide_eq_false h];simp
theorem event_right2 (n:Nat) {p c:Ev} (hp:EvW p) (hc:EvW c):event_right (n+2) [p,c]=some (decide (EvOk p∧EvOk c)):=by
  rw[event_right_val n [p,c] (by simp) (by simp[hp,hc])]
  simp
theorem event_follow (n:Nat) {p c:Ev} (hp:EvW p) (hc:EvW c):event_Follow (n+3) p c=some (decide (EvOk p∧EvOk c∧p.1<c.1)):=by
  rw[event_Follow_eq,event_right2 n hp hc]
  by_cases h:EvOk p∧EvOk c
  · simp[h.1,h.2]
  · have h2:¬(EvOk p∧EvOk c∧p.1<c.1):=fun k=>h ⟨k.1,k.2.1⟩
    rw[decide_eq_false h,decide_eq_false h2];simp
def dcell (d:Int×(Int×(Int×Int))):Cel:=(0,(e0,(e0,((0,d.1),(d.2.1,(d.2.2.1,d.2.2.2))))))
theorem event_anew_val (n:Nat) (c:Ev) (s:Int):event_anew (n+2) c s=some (dcell (c.2.1,1,0,s)):=by
  rw[event_anew_eq,wide_of];rfl
theorem event_between (n:Nat) {p c:Ev} (hp:EvOk p) (hc:EvOk c):event_Between (n+3) p c=some (if p.1<c.1 then (dcell (btw p c),0) else (z0,9)):=by
  rw[event_Between_eq,event_right2 n (.of hp) (.of hc),decide_eq_true ⟨hp,hc⟩]
  simp only[obs,Bool.not_true,tff,tfd]
  by_cases h:p.1<c.1
  · have h':¬(c.1≤p.1):=by omega
    rw[if_neg h',if_pos h]
    obtain ⟨a1,a2,a3,a4,a5,a6,a7⟩:=hp
    obtain ⟨b1,b2,b3,b4,b5,b6,b7⟩:=hc
    unfold btw
    cases k1:c.2.2.2 with
    | true=>rw[tft,if_pos rfl];rfl
    | false =>
      rw[tff,if_neg Bool.false_ne_true]
      by_cases k2:p.1<c.2.2.1
      · rw[if_pos k2,if_pos k2,event_anew_val,w64 (by omega) (by omega)];rfl
      rw[if_neg k2,if_neg k2]
      cases k3:p.2.2.2 with
      | true=>rw[tft,if_pos rfl];rfl
      | false =>
        rw[tff,if_neg Bool.false_ne_true]
        by_cases k4:c.2.1<p.2.1
        · rw[if_pos k4,if_pos k4,event_anew_val,w64 (by omega) (by omega)];rfl
        · rw[if_neg k4,if_neg k4,wide_of,w64 (by omega) (by omega),wu64 (by omega) (by omega)];rfl
  · rw[if_pos (by omega),if_neg h];rfl
theorem r07_between (n:Nat) {p c:Ev} (hp:EvOk p) (hc:EvOk c):r07_Between (n+2) p c=some (if p.1<c.1 then (dcell (btw p c),0) else (z0,9)):=by
  rw[r07_Between_eq,r07_check n (.of hp),r07_check n (.of hc)]
  simp only[obs,if_pos hp,if_pos hc,tfn,tfd,if_pos trivial]
  by_cases h:p.1<c.1
  · have h':¬(c.1≤p.1):=by omega
    rw[if_neg h',if_pos h]
    obtain ⟨a1,a2,a3,a4,a5,a6,a7⟩:=hp
    obtain ⟨b1,b2,b3,b4,b5,b6,b7⟩:=hc
    unfold btw
    cases k1:c.2.2.2 with
    | true=>rw[tft,if_pos rfl];rfl
    | false =>
      rw[tff,if_neg Bool.false_ne_true]
      by_cases k2:p.1<c.2.2.1
      · rw[if_pos k2,if_pos k2,w64 (by omega) (by omega)];rfl
      rw[if_neg k2,if_neg k2]
      cases k3:p.2.2.2 with
      | true=>rw[tft,if_pos rfl];rfl
      | false =>
        rw[tff,if_neg Bool.false_ne_true]
        by_cases k4:c.2.1<p.2.1
        · rw[if_pos k4,if_pos k4,w64 (by omega) (by omega)];rfl
        · rw[if_neg k4,if_neg k4,w64 (by omega) (by omega),wu64 (by omega) (by omega)];rfl
  · rw[if_pos (by omega),if_neg h];rfl
theorem cell_none_val (n:Nat) (c:Cel):cell_none (n+1) c=some (decide (c=z0)):=by rw[cell_none_eq,celEq0]
theorem cell_in_val (n:Nat) (x m:Int):cell_in (n+1) x m=some (decide (0≤x∧x≤m)):=by
  rw[cell_in_eq]
  by_cases h1:(0:Int)≤x<;>by_cases h2:x≤m<;>simp[h1,h2]
def Spans (c:Cel):Prop:=(c.1=1∧c.2.1=c.2.2.1∧EvOk c.2.1)∨(1<c.1∧EvOk c.2.1∧EvOk c.2.2.1∧c.2.1.1<c.2.2.1.1∧c.1-1≤c.2.2.1.1-c.2.1.1)
instance (c:Cel):Decidable (Spans c):=by unfold Spans;infer_instance
theorem cell_spans_val (n:Nat) {c:Cel} (hw:CelW c):cell_spans (n+4) c=some (decide (Spans c)):=by
  rw[cell_spans_eq,evEq]
  simp only[tfd]
  by_cases h1:c.1=1
  · rw[if_pos h1]
    by_cases h2:c.2.1=c.2.2.1
    · rw[if_pos h2,event_check _ hw.f]
      simp only[obs,zif]
      congr 1
      refine decide_eq_decide.2 ⟨fun h => .inl ⟨h1,h2,h⟩,fun h => ?_⟩
      rcases h with h | h
      · exact h.2.2
      · exact h.2.1
    · rw[if_neg h2,decide_eq_false]
      rintro (h | h)
      · exact h2 h.2.1
      · omega
  · rw[if_neg h1]
    by_cases h2:1<c.1
    · rw[if_pos h2,event_follow _ hw.f hw.l]
      simp only[obs,tfd]
      by_cases h3:EvOk c.2.1∧EvOk c.2.2.1∧c.2.1.1<c.2.2.1.1
      · rw[if_pos h3]
        obtain ⟨h3,h4,h5⟩:=h3
        have:=hw.n;unfold I64 at this
        have:=h3.t0;have:=h4.t1;have:=h3.t1;have:=h4.t0
        rw[w64 (by omega) (by omega),w64 (by omega) (by omega)]
        congr 1
        refine decide_eq_decide.2 ⟨fun h => .inr ⟨h2,h3,h4,h5,h⟩,fun h => ?_⟩
        rcases h with h | h
        · omega
        · exact h.2.2.2.2
      · rw[if_neg h3,decide_eq_false]
        rintro (h | h)
        · omega
        · exact h3 ⟨h.2.1,h.2.2.1,h.2.2.2.1⟩
    · rw[if_neg h2,decide_eq_false]
      rintro (h | h)<;>omega
theorem CellN.spans {c:Cel} (h:CellN c):Spans c:=by
  by_cases h1:c.1=1
  · exact .inl ⟨h1,h.one h1,h.f⟩
  · have:=h.n1
    exact .inr ⟨by omega,h.f,h.l,h.more (by omega),h.n2⟩
theorem cellN_of {c:Cel} (hw:CelW c) (hs:Spans c) (hi:wv c.2.2.2.1≤18446744073709551615*(c.1-1)) (hr:0≤c.2.2.2.2.1) (hg:0≤c.2.2.2.2.2.1) (hrg:c.2.2.2.2.1+c.2.2.2.2.2.1≤c.1-1)
    (h0:0≤c.2.2.2.2.2.2) (h1:c.2.2.2.2.2.2≤c.2.2.1.1-c.2.1.1):CellN c:=by
  rcases hs with ⟨a,b,d⟩ | ⟨a,b,d,e,f⟩
  · exact ⟨by omega,d,b ▸ d,fun _=>b,fun h=>by omega,by rw[b];omega,hw.w,hi,hr,hg,hrg,h0,h1⟩
  · exact ⟨by omega,b,d,fun h=>by omega,fun _=>e,f,hw.w,hi,hr,hg,hrg,h0,h1⟩
theorem spans_small {c:Cel} (h:Spans c):1≤c.1∧c.1≤35184372088832∧0≤c.2.2.1.1-c.2.1.1∧c.2.2.1.1-c.2.1.1≤35184372088832:=by
  rcases h with ⟨a,b,d⟩ | ⟨a,b,d,e,f⟩
  · rw[b];have:=d.t0;omega
  · have:=b.t0;have:=d.t1;omega
theorem times_most {k:Int} (h:0≤k∧k≤35184372088832):timesW (0,18446744073709551615) k=(mkW (18446744073709551615*k),0):=by
  unfold timesW
  rw[show wv (0,18446744073709551615)=18446744073709551615 from rfl,if_pos (by omega)]
theorem cell_check (n:Nat) {c:Cel} (hw:CelW c):cell_Check (n+5) c=some (if CellOk c then 0 else 2):=by
  rw[cell_Check_eq,cell_none_val,cell_spans_val n hw]
  simp only[obs,tfd,tfn]
  by_cases h0:c=z0
  · rw[if_pos h0,if_pos (.inl h0)]
  rw[if_neg h0]
  by_cases hs:Spans c
  · rw[if_pos hs]
    obtain ⟨s1,s2,s3,s4⟩:=spans_small hs
    have hg:=hw.g;have hr:=hw.r;have hse:=hw.s
    unfold I64 at hg hr hse
    have hmw:WdOk (mkW (18446744073709551615*(c.1-1))):=mkW_ok (by omega) (by omega)
    rw[wide_of,w64 (x:=c.1-1) (by omega) (by omega),wu64 (by omega) (by omega)]
    simp only[obs]
    rw[wide_times (n+2) ⟨by simp,by simp⟩ _ (by omega),times_most (by omega)]
    simp only[obs,if_pos trivial,wide_less (n+3) hmw hw.w,wv_mkW,cell_in_val,tfd]
    by_cases c1:18446744073709551615*(c.1-1)<wv c.2.2.2.1
    · rw[if_pos c1,if_neg (fun k=>by have:=(k.n h0).inc;omega)]
    rw[if_neg c1]
    by_cases c2:0≤c.2.2.2.2.2.1∧c.2.2.2.2.2.1≤c.1-1
    · rw[if_pos c2,w64 (by omega) (by omega)]
      by_cases c3:0≤c.2.2.2.2.1∧c.2.2.2.2.1≤c.1-1-c.2.2.2.2.2.1
      · rw[if_pos c3,w64 (by omega) (by omega)]
        by_cases c4:0≤c.2.2.2.2.2.2∧c.2.2.2.2.2.2≤c.2.2.1.1-c.2.1.1
        · rw[if_pos c4,if_pos (.inr (cellN_of hw hs (by omega) c3.1 c2.1 (by omega) c4.1 c4.2))]
        · rw[if_neg c4,if_neg (fun k=>c4 ⟨(k.n h0).s0,(k.n h0).s1⟩)]
      · rw[if_neg c3,if_neg (fun k=>c3 (by have:=(k.n h0).r;have:=(k.n h0).rg;omega))]
    · rw[if_neg c2,if_neg (fun k=>c2 (by have:=(k.n h0).r;have:=(k.n h0).g;have:=(k.n h0).rg;omega))]
  · rw[if_neg hs,if_neg (fun k=>hs (CellN.spans (k.n h0)))]
theorem r08_check (n:Nat) {c:Cel} (hw:CelW c):r08_Check (n+4) c=some (if CellOk c then 0 else 2):=by
  rw[r08_Check_eq,evEq,celEq0,r07_check _ hw.f,r07_check _ hw.l]
  simp only[obs,tfd,tfn]
  by_cases h0:c=z0
  · rw[if_pos h0,if_pos (.inl h0)]
  rw[if_neg h0]
  have no:∀ {p:Prop},(CellN c→p)→¬p→(if CellOk c then (0:Int) else 2)=2:=fun h h'=>if_neg (fun k=>h' (h (k.n h0)))
  by_cases c1:c.1<1
  · rw[if_pos c1,no (fun k=>k.n1) (by omega)]
  rw[if_neg c1]
  by_cases c2:EvOk c.2.1
  case neg=>rw[if_neg c2,if_neg (by decide),no (fun k=>k.f) c2]
  by_cases c3:EvOk c.2.2.1
  case neg=>rw[if_pos c2,if_pos rfl,if_neg c3,if_neg (by decide),no (fun k=>k.l) c3]
  rw[if_pos c2,if_pos rfl,if_pos c3,if_pos rfl]
  have t0:=c2.t0;have t1:=c2.t1;have t2:=c3.t0;have t3:=c3.t1
  by_cases c4:c.2.2.1.1<c.2.1.1
  · rw[if_pos c4,no (fun k=>k.ft) (by omega)]
  rw[if_neg c4,w64 (x:=c.2.2.1.1-c.2.1.1) (by omega) (by omega),w64 (x:=c.2.2.1.1-c.2.1.1+1) (by omega) (by omega)]
  by_cases c5:c.2.2.1.1-c.2.1.1+1<c.1
  · rw[if_pos c5,no (fun k=>k.n2) (by omega)]
  rw[if_neg c5]
  have hg:=hw.g;have hr:=hw.r;have hse:=hw.s
  unfold I64 at hg hr hse
  have hmw:WdOk (mkW (18446744073709551615*(c.1-1))):=mkW_ok (by omega) (by omega)
  rw[w64 (x:=c.1-1) (by omega) (by omega),wu64 (by omega) (by omega),r01_times n (a:=(0,18446744073709551615)) ⟨by simp,by simp⟩ _ (by omega),times_most (by omega)]
  simp only[obs,r01_less (n+1) hmw hw.w,wv_mkW,tfd]
  have tail:Spans c→(if c.2.2.2.2.1<0 then some (2:Int) else if c.2.2.2.2.2.1<0 then some 2 else if c.2.2.2.2.2.2<0 then some 2 else if c.1≤c.2.2.2.2.1 then some 2 else if c.1≤c.2.2.2.2.2.1 then some 2
      else if c.1≤IntKind.wrap .i64 (c.2.2.2.2.1+c.2.2.2.2.2.1) then some 2 else if c.2.2.1.1-c.2.1.1<c.2.2.2.2.2.2 then some 2 else if 18446744073709551615*(c.1-1)<wv c.2.2.2.1 then some 2 else some 0)=some (if CellOk c then 0 else 2):=by
    intro hs
    by_cases d1:c.2.2.2.2.1<0
    · rw[if_pos d1,no (fun k=>k.r) (by omega)]
    by_cases d2:c.2.2.2.2.2.1<0
    · rw[if_neg d1,if_pos d2,no (fun k=>k.g) (by omega)]
    by_cases d3:c.2.2.2.2.2.2<0
    · rw[if_neg d1,if_neg d2,if_pos d3,no (fun k=>k.s0) (by omega)]
    by_cases d4:c.1≤c.2.2.2.2.1
    · rw[if_neg d1,if_neg d2,if_neg d3,if_pos d4,no (fun k=>k.rg) (by omega)]
    by_cases d5:c.1≤c.2.2.2.2.2.1
    · rw[if_neg d1,if_neg d2,if_neg d3,if_neg d4,if_pos d5,no (fun k=>k.rg) (by omega)]
    rw[if_neg d1,if_neg d2,if_neg d3,if_neg d4,if_neg d5,w64 (x:=c.2.2.2.2.1+c.2.2.2.2.2.1) (by omega) (by omega)]
    by_cases d6:c.1≤c.2.2.2.2.1+c.2.2.2.2.2.1
    · rw[if_pos d6,no (fun k=>k.rg) (by omega)]
    by_cases d7:c.2.2.1.1-c.2.1.1<c.2.2.2.2.2.2
    · rw[if_neg d6,if_pos d7,no (fun k=>k.s1) (by omega)]
    by_cases d8:18446744073709551615*(c.1-1)<wv c.2.2.2.1
    · rw[if_neg d6,if_neg d7,if_pos d8,no (fun k=>k.inc) (by omega)]
    · rw[if_neg d6,if_neg d7,if_neg d8,if_pos (.inr (cellN_of hw hs (by omega) (by omega) (by omega) (by omega) (by omega) (by omega)))]
  by_cases c6:c.1=1
  · rw[if_pos c6]
    by_cases c7:c.2.1=c.2.2.1
    · rw[if_pos c7,if_neg (show ¬(1<c.1) by omega)]
      exact tail (.inl ⟨c6,c7,c2⟩)
    · rw[if_neg c7,no (fun k=>k.one c6) c7]
  · rw[if_neg c6]
    have c8:1<c.1:=by omega
    rw[if_pos c8]
    by_cases c9:c.2.1.1=c.2.2.1.1
    · rw[if_pos c9,no (fun k=>k.more c8) (by omega)]
    · rw[if_neg c9]
      exact tail (.inr ⟨c8,c2,c3,by omega,by omega⟩)
theorem z02 (p:Prop) [Decidable p]:((if p then (0:Int) else 2)=0)↔p:=by by_cases h:p<;>simp[h]
theorem ahead_n {a b:Cel} (ha:a≠z0) (hb:b≠z0):Ahead a b↔a.2.2.1.1<b.2.1.1:=⟨fun h=>(h.resolve_left ha).resolve_left hb,fun h => .inr (.inr h)⟩
theorem join_facts {a b:Cel} (na:CellN a) (nb:CellN b) (h:a.2.2.1.1<b.2.1.1) :
    (∀x∈[a.2.2.2.1,(dcell (btw a.2.2.1 b.2.1)).2.2.2.1,b.2.2.2.1],WdOk x)∧sumW [a.2.2.2.1,(dcell (btw a.2.2.1 b.2.1)).2.2.2.1,b.2.2.2.1]=wv a.2.2.2.1+(btw a.2.2.1 b.2.1).1+wv b.2.2.2.1 ∧
    wv a.2.2.2.1+(btw a.2.2.1 b.2.1).1+wv b.2.2.2.1<340282366920938463463374607431768211456:=by
  have d:=btw_ok na.l nb.f h
  have ia:=na.inc;have ib:=nb.inc
  have sa:=na.small;have sb:=nb.small
  have d1:=d.i
  refine ⟨?_,?_,by omega⟩
  · intro x hx
    simp only[List.mem_cons,List.not_mem_nil,or_false] at hx
    rcases hx with rfl | rfl | rfl
    · exact na.w
    · exact ⟨by simp[dcell],d1⟩
    · exact nb.w
  · simp[sumW,dcell,wv_lo];omega
theorem cell_merge (n:Nat) {a b:Cel} (ha:CelW a) (hb:CelW b):cell_Merge (n+6) a b=some (mrgE a b):=by
  rw[cell_Merge_eq,cell_check n ha,cell_check n hb,cell_none_val,cell_none_val]
  simp only[obs,tfd,tfn,z02]
  unfold mrgE
  by_cases h1:CellOk a
  case neg=>rw[if_neg h1,if_neg (fun k=>h1 k.1)];rfl
  by_cases h2:CellOk b
  case neg=>rw[if_pos h1,if_neg h2,if_neg (fun k=>h2 k.2)];rfl
  rw[if_pos h1,if_pos h2,if_pos (And.intro h1 h2)]
  by_cases h3:a=z0
  · rw[if_pos h3,if_pos (.inl h3),h3,z0_mrg]
  by_cases h4:b=z0
  · rw[if_neg h3,if_pos h4,if_pos (.inr (.inl h4)),h4,mrg_z0]
  rw[if_neg h3,if_neg h4]
  have na:=h1.n h3;have nb:=h2.n h4
  rw[cell_join_eq,event_between (n+1) na.l nb.f]
  simp only[obs]
  by_cases h5:a.2.2.1.1<b.2.1.1
  · obtain ⟨w1,w2,w3⟩:=join_facts na nb h5
    have d:=btw_ok na.l nb.f h5
    rw[if_pos h5,if_pos ((ahead_n h3 h4).2 h5)]
    simp only[decide_true,Bool.not_true,tff]
    rw[wide_sum (n+1) _ (by simp) w1 (by rw[w2];exact w3),w2]
    simp only[obs]
    rw[mrg_n na nb]
    have:=na.small;have:=nb.small;have:=na.n1;have:=nb.n1
    have:=na.r;have:=na.g;have:=na.rg;have:=nb.r;have:=nb.g;have:=nb.rg
    have:=na.s0;have:=na.s1;have:=nb.s0;have:=nb.s1
    have:=na.f.t0;have:=na.l.t1;have:=nb.f.t0;have:=nb.l.t1
    obtain ⟨d1,d2,d3,d4,d5⟩:=d
    simp only[dcell]
    rw[w64 (x:=a.1+b.1) (by omega) (by omega),w64 (x:=a.2.2.2.2.1+b.2.2.2.2.1) (by omega) (by omega),w64 (x:=a.2.2.2.2.2.1+b.2.2.2.2.2.1) (by omega) (by omega),w64 (x:=a.2.2.2.2.2.2+b.2.2.2.2.2.2) (by omega) (by omega)]
    rw[w64 (by omega) (by omega),w64 (by omega) (by omega),w64 (by omega) (by omega)]
    refine congrArg some (Prod.ext (Prod.ext rfl (Prod.ext rfl (Prod.ext rfl (Prod.ext rfl (Prod.ext ?_ (Prod.ext ?_ ?_)))))) rfl)<;>simp only<;>omega
  · rw[if_neg h5,if_neg (fun k=>h5 ((ahead_n h3 h4).1 k))]
    simp only[tfn,tfd]
    rw[if_neg (by decide)]
    rfl
theorem r08_merge (n:Nat) {a b:Cel} (ha:CelW a) (hb:CelW b):r08_Merge (n+5) a b=some (mrgE a b):=by
  rw[r08_Merge_eq,r08_check n ha,r08_check n hb]
  simp only[obs,tfd,tfn,z02]
  unfold mrgE
  by_cases h1:CellOk a
  case neg=>rw[if_neg h1,if_neg (fun k=>h1 k.1)];rfl
  by_cases h2:CellOk b
  case neg=>rw[if_pos h1,if_neg h2,if_neg (fun k=>h2 k.2)];rfl
  rw[if_pos h1,if_pos h2,if_pos (And.intro h1 h2)]
  by_cases h3:a=z0
  · rw[if_pos (h1.count.1.2 h3),if_pos (.inl h3),h3,z0_mrg]
  by_cases h4:b=z0
  · rw[if_neg (mt h1.count.1.1 h3),if_pos (h2.count.1.2 h4),if_pos (.inr (.inl h4)),h4,mrg_z0]
  rw[if_neg (mt h1.count.1.1 h3),if_neg (mt h2.count.1.1 h4)]
  have na:=h1.n h3;have nb:=h2.n h4
  by_cases h5:a.2.2.1.1<b.2.1.1
  · obtain ⟨w1,w2,w3⟩:=join_facts na nb h5
    have d:=btw_ok na.l nb.f h5
    rw[if_neg (by omega),if_pos ((ahead_n h3 h4).2 h5),r07_between (n+2) na.l nb.f,if_pos h5]
    simp only[obs]
    rw[r01_sum (n+1) _ (by simp) w1 (by rw[w2];exact w3),w2]
    simp only[obs]
    rw[mrg_n na nb]
    have:=na.small;have:=nb.small;have:=na.n1;have:=nb.n1
    have:=na.r;have:=na.g;have:=na.rg;have:=nb.r;have:=nb.g;have:=nb.rg
    have:=na.s0;have:=na.s1;have:=nb.s0;have:=nb.s1
    have:=na.f.t0;have:=na.l.t1;have:=nb.f.t0;have:=nb.l.t1
    obtain ⟨d1,d2,d3,d4,d5⟩:=d
    simp only[dcell]
    rw[w64 (x:=a.1+b.1) (by omega) (by omega),w64 (x:=a.2.2.2.2.1+_) (by omega) (by omega),w64 (x:=a.2.2.2.2.2.1+_) (by omega) (by omega),w64 (x:=a.2.2.2.2.2.2+_) (by omega) (by omega)]
    rw[w64 (by omega) (by omega),w64 (by omega) (by omega),w64 (by omega) (by omega)]
  · rw[if_pos (by omega),if_neg (fun k=>h5 ((ahead_n h3 h4).1 k))]
    rfl
theorem mrgE_ok {a b:Cel} (h:(mrgE a b).2=0):CellOk a∧CellOk b∧Ahead a b∧(mrgE a b).1=mrg a b∧CellOk (mrgE a b).1:=by
  unfold mrgE at h ⊢
  by_cases h1:CellOk a∧CellOk b
  · rw[if_pos h1] at h ⊢
    by_cases h2:Ahead a b
    · rw[if_pos h2];exact ⟨h1.1,h1.2,h2,rfl,mrg_ok h1.1 h1.2 h2⟩
    · rw[if_neg h2] at h;simp at h
  · rw[if_neg h1] at h;simp at h
theorem mrgE_w (a b:Cel):CelW (mrgE a b).1:=by
  by_cases h:(mrgE a b).2=0
  · exact .of (mrgE_ok h).2.2.2.2
  · unfold mrgE at h ⊢
    by_cases h1:CellOk a∧CellOk b
    · rw[if_pos h1] at h ⊢
      by_cases h2:Ahead a b
      · rw[if_pos h2] at h;simp at h
      · rw[if_neg h2];exact celW_z0
    · rw[if_neg h1];exact celW_z0
theorem cell_all_l (n:Nat) (s2:Cel) (l:List Cel) (hL:l.length≤1000000000000) (hw:∀x∈l,CelW x):∀(rest pre:List Cel) (f:Nat) (c:Cel) (i len:Int),l=pre++rest→i=pre.length→len=l.length→rest.length<f→CelW c →
    cell_All_l3 (n+6) f (s2,c,l,len,i,())=some (if (allE c rest).2=0 then .inl (s2,(allE c rest).1,()) else .inr (z0,(allE c rest).2)):=by
  intro rest
  induction rest with
  | nil =>
    intro pre f c i len hl hi hn hf hc
    obtain ⟨f,rfl⟩:∃g,f=g+1:=⟨f-1,by simp at hf;omega⟩
    rw[cell_All_l3_eq]
    simp only[tfd,if_neg (idxe hl hi hn),allE,if_pos trivial]
  | cons x rest ih =>
    intro pre f c i len hl hi hn hf hc
    obtain ⟨f,rfl⟩:∃g,f=g+1:=⟨f-1,by simp at hf;omega⟩
    rw[cell_All_l3_eq]
    have hx:CelW x:=hw x (by rw[hl];simp)
    simp only[tfd,tfn,if_pos (idx hl hi hn),at_mid hl hi,obs,cell_merge n hc hx,idxw hl hi hL]
    by_cases h:(mrgE c x).2=0
    · rw[if_pos h,ih (pre++[x]) f _ (i+1) len (idxl hl) (idxs hi) hn (by simp at hf;omega) (mrgE_w c x)]
      simp only[allE,if_pos h]
    · rw[if_neg h]
      simp only[allE,if_neg h]
      rfl
theorem allE_z0 (l:List Cel):∀c,(allE c l).2≠0→(allE c l).1=z0:=by
  induction l with
  | nil=>intro c h;exact absurd rfl h
  | cons x l ih =>
    intro c h
    simp only[allE] at h ⊢
    split at h
    · rename_i k;rw[if_pos k];exact ih _ h
    · rename_i k;rw[if_neg k]
theorem cell_all (n:Nat) (l:List Cel) (hL:l.length≤1000000000000) (hw:∀x∈l,CelW x):cell_All (n+7) l=some (allE z0 l):=by
  have:=cell_all_l n z0 l hL hw l [] loopFuel z0 0 l.length rfl rfl rfl (by unfold loopFuel;omega) celW_z0
  rw[cell_All_eq]
  have e:cell_All_l3 (n+6) loopFuel (((0:Int),(((0:Int),((0:Int),((0:Int),false))),(((0:Int),((0:Int),((0:Int),false))),(((0:Int),(0:Int)),((0:Int),((0:Int),(0:Int))))))),((0:Int),(((0:Int),((0:Int),((0:Int),false))),(((0:Int),((0:Int),((0:Int),false))),(((0:Int),(0:Int)),((0:Int),((0:Int),(0:Int))))))),l,(l.length:Int),(0:Int),())=_:=this
  rw[e]
  by_cases h:(allE z0 l).2=0
  · rw[if_pos h];simp only[obs,selim_inl]
    exact congrArg some (Prod.ext rfl h.symm)
  · rw[if_neg h];simp only[obs,selim_inr]
    exact congrArg some (Prod.ext (allE_z0 l z0 h).symm rfl)
theorem r08_all_l (n:Nat) (s2:Cel) (l:List Cel) (hL:l.length≤1000000000000) (hw:∀x∈l,CelW x):∀(rest pre:List Cel) (f:Nat) (c:Cel) (i len:Int),l=pre++rest→i=pre.length→len=l.length→rest.length<f→CelW c →
    r08_All_l3 (n+5) f (s2,c,l,len,i,())=some (if (allE c rest).2=0 then .inl (s2,(allE c rest).1,()) else .inr (z0,(allE c rest).2)):=by
  intro rest
  induction rest with
  | nil =>
    intro pre f c i len hl hi hn hf hc
    obtain ⟨f,rfl⟩:∃g,f=g+1:=⟨f-1,by simp at hf;omega⟩
    rw[r08_All_l3_eq]
    simp only[tfd,if_neg (idxe hl hi hn),allE,if_pos trivial]
  | cons x rest ih =>
    intro pre f c i len hl hi hn hf hc
    obtain ⟨f,rfl⟩:∃g,f=g+1:=⟨f-1,by simp at hf;omega⟩
    rw[r08_All_l3_eq]
    have hx:CelW x:=hw x (by rw[hl];simp)
    simp only[tfd,tfn,if_pos (idx hl hi hn),at_mid hl hi,obs,r08_merge n hc hx,idxw hl hi hL]
    by_cases h:(mrgE c x).2=0
    · rw[if_pos h,ih (pre++[x]) f _ (i+1) len (idxl hl) (idxs hi) hn (by simp at hf;omega) (mrgE_w c x)]
      simp only[allE,if_pos h]
    · rw[if_neg h]
      simp only[allE,if_neg h]
      rfl
theorem r08_all (n:Nat) (l:List Cel) (hL:l.length≤1000000000000) (hw:∀x∈l,CelW x):r08_All (n+6) l=some (allE z0 l):=by
  have:=r08_all_l n z0 l hL hw l [] loopFuel z0 0 l.length rfl rfl rfl (by unfold loopFuel;omega) celW_z0
  rw[r08_All_eq]
  have e:r08_All_l3 (n+5) loopFuel (((0:Int),(((0:Int),((0:Int),((0:Int),false))),(((0:Int),((0:Int),((0:Int),false))),(((0:Int),(0:Int)),((0:Int),((0:Int),(0:Int))))))),((0:Int),(((0:Int),((0:Int),((0:Int),false))),(((0:Int),((0:Int),((0:Int),false))),(((0:Int),(0:Int)),((0:Int),((0:Int),(0:Int))))))),l,(l.length:Int),(0:Int),())=_:=this
  rw[e]
  by_cases h:(allE z0 l).2=0
  · rw[if_pos h];simp only[obs,selim_inl]
    exact congrArg some (Prod.ext rfl h.symm)
  · rw[if_neg h];simp only[obs,selim_inr]
    exact congrArg some (Prod.ext (allE_z0 l z0 h).symm rfl)
end Go.Proofs.YtgkpkajaepphjaaGreatDoor

namespace Go.Plim
set_option linter.unusedVariables false
variable {α:Type}
def Srt (key:α→Int) (d:List α) (a b:Nat):Prop:=∀i j x y,a≤i→i<j→j<b→d[i]? = some x→d[j]? = some y→key x≤key y
structure Mv (d d':List α) (a b:Nat):Prop where
  perm:d'.Perm d
  out:∀i,(i<a∨b≤i)→d'[i]? = d[i]?
  ins:∀i x,a≤i→i<b→d'[i]? = some x→∃j,a≤j∧j<b∧d[j]? = some x
theorem Mv.len {d d':List α} {a b:Nat} (h:Mv d d' a b):d'.length=d.length:=h.perm.length_eq
theorem Mv.refl (d:List α) (a b:Nat):Mv d d a b:=⟨.refl _,fun _ _=>rfl,fun i x h1 h2 h=>⟨i,h1,h2,h⟩⟩
theorem Mv.trans {d d' d'':List α} {a b:Nat} (h:Mv d d' a b) (g:Mv d' d'' a b):Mv d d'' a b :=
  ⟨g.perm.trans h.perm,fun i hi=>(g.out i hi).trans (h.out i hi),fun i x h1 h2 hx=>by
    obtain ⟨j,j1,j2,hj⟩:=g.ins i x h1 h2 hx
    exact h.ins j x j1 j2 hj⟩
theorem Mv.mono {d d':List α} {a b a' b':Nat} (h:Mv d d' a b) (ha:a'≤a) (hb:b≤b'):Mv d d' a' b' :=
  ⟨h.perm,fun i hi=>h.out i (by omega),fun i x h1 h2 hx=>by
    by_cases k:a≤i∧i<b
    · obtain ⟨j,j1,j2,hj⟩:=h.ins i x k.1 k.2 hx
      exact ⟨j,by omega,by omega,hj⟩
    · rw[h.out i (by omega)] at hx
      exact ⟨i,h1,h2,hx⟩⟩
theorem Srt.mono {key:α→Int} {d:List α} {a b a' b':Nat} (h:Srt key d a b) (ha:a≤a') (hb:b'≤b):Srt key d a' b' :=
  fun i j x y h1 h2 h3=>h i j x y (by omega) h2 (by omega)
theorem Srt.keep {key:α→Int} {d d':List α} {a b p q:Nat} (h:Srt key d p q) (m:Mv d d' a b) (hd:q≤a∨b≤p):Srt key d' p q :=
  fun i j x y h1 h2 h3 hx hy=>h i j x y h1 h2 h3 (by rw[←m.out i (by omega)];exact hx) (by rw[←m.out j (by omega)];exact hy)
theorem Srt.one (key:α→Int) (d:List α) {a b:Nat} (h:b≤a+1):Srt key d a b:=fun i j _ _ h1 h2 h3=>by omega
structure Turned (d d':List α) (a m b:Nat):Prop where
  mv:Mv d d' a b
  lo:∀i,a≤i→i<a+(b-m)→d'[i]? = d[i+(m-a)]?
  hi:∀i,a+(b-m)≤i→i<b→d'[i]? = d[i-(b-m)]?
end Go.Plim

namespace Go.Proofs.YtgkpkajaepphjaaGreatDoor
open Go.Flat Go.Plim
set_option linter.unusedVariables false
set_option linter.unusedSimpArgs false
def Cmp (cmp:(TSlot×(TSlot×Unit))→Option Int) (key:TSlot→Int):Prop:=∀x y,∃c,cmp (x,(y,()))=some c∧(c<0↔key x<key y)
section
variable {cmp:(TSlot×(TSlot×Unit))→Option Int} {key:TSlot→Int} (hc:Cmp cmp key)
include hc
omit hc in
omit hc in
omit hc in
omit hc in
end
abbrev Lab:=List UInt8×List UInt8
def sgn (c:Int):Prop:=(97≤c∧c≤122)∨(65≤c∧c≤90)∨(48≤c∧c≤57)∨c=95
def digitP (c:Int):Prop:=48≤c∧c≤57
def NameOk:List UInt8→Prop
  | []=>False
  | b::r=>(b::r).length≤64∧¬digitP (b.toNat:Int)∧∀x∈b::r,sgn (x.toNat:Int)
def chkL:Option (List UInt8)→List Lab→Prop
  | _,[]=>True
  | p,x::r=>NameOk x.1∧x.2.length≤128∧(∀q,p=some q→Op.bytesLess q x.1=true)∧chkL (some x.1) r
def sumL (l:List Lab):Int:=(l.map fun x=>((x.1.length:Int)+x.2.length)).sum
theorem NameOk.len {s:List UInt8} (h:NameOk s):s.length≤64:=by
  match s with
  | []=>simp
  | b::r=>exact h.1
structure LabOk (l:List Lab):Prop where
  n0:1≤l.length
  n1:l.length≤16
  c:chkL none l
  t:sumL l≤256
noncomputable instance (l:List Lab):Decidable (LabOk l):=Classical.propDecidable _
abbrev Rw:=Int×(Int×List Ev)
structure RawOk (r:Rw) (room:Int):Prop where
  m0:1≤room
  m1:room≤4096
  len:(r.2.2.length:Int)≤room
  l0:0≤r.1
  l1:r.1≤70368744177664
  f:Foll r.2.2
  z:r.1=0→r.2.1=0
  p:r.1≠0→(r.2.2.length:Int)=room∧0≤r.2.1∧∀x,r.2.2.head? = some x→r.2.1<x.1
def RawW (r:Rw):Prop:=∀e∈r.2.2,EvW e
def r0w:Rw:=(0,(0,[]))
end Go.Proofs.YtgkpkajaepphjaaGreatDoor
namespace Go.Proofs.YtgkpkajaepphjaaGreatDoor
open Go.Flat Go.Plim
end Go.Proofs.YtgkpkajaepphjaaGreatDoor
namespace Go.Proofs.YtgkpkajaepphjaaGreatDoor
open Go.Flat Go.Plim
set_option linter.unusedVariables false
set_option linter.unusedSimpArgs false
def Place (key:TSlot→Int) (d:List TSlot) (a b k i:Nat) (x:TSlot):Prop :=
  (∀p z,a≤p→p<i→p≠k→d[p]? = some z→key z≤key x)∧(∀p z,i≤p→p<b→p≠k→d[p]? = some z→key x≤key z)
section
variable {cmp:(TSlot×(TSlot×Unit))→Option Int} {key:TSlot→Int} (hc:Cmp cmp key)
include hc
end
section
variable {cmp:(TSlot×(TSlot×Unit))→Option Int} {key:TSlot→Int} (hc:Cmp cmp key)
include hc
end
end Go.Proofs.YtgkpkajaepphjaaGreatDoor

namespace Go.Plim
set_option linter.unusedVariables false
abbrev Slo:=Int×Cel
instance decSlo:DecidableEq Slo := @instDecidableEqProd _ _ _ decCel
def s0:Slo:=(0,z0)
structure FitsP (c:Cel) (w i:Int):Prop where
  n:CellN c
  w0:1≤w
  w1:w≤1099511627776
  f:c.2.1.1 / w=i
  l:c.2.2.1.1 / w=i
theorem FitsP.i0 {c:Cel} {w i:Int} (h:FitsP c w i):0≤i∧i<35184372088832:=by
  obtain ⟨n,w0,w1,f,l⟩:=h
  have h1:=n.f.t0
  have h2:=n.f.t1
  have:0≤c.2.1.1 / w:=Int.ediv_nonneg h1 (by omega)
  have:c.2.1.1 / w≤c.2.1.1:=Int.ediv_le_self _ h1
  omega
structure TierOk (l:List Slo) (w:Int):Prop where
  l0:1≤l.length
  l1:l.length≤4096
  w0:1≤w
  w1:w≤1099511627776
  s:∀(j:Nat) s,l[j]? = some s→s=s0∨(s.1 % (l.length:Int)=j∧FitsP s.2 w s.1)
def some13 (l:List Slo):List Slo:=l.filter fun s=>decide (s≠s0)
theorem TierOk.apart {l:List Slo} {w:Int} (h:TierOk l w):(some13 l).Pairwise fun a b=>a.1≠b.1:=by
  have key:∀(m:List Slo) (k:Nat),(∀(j:Nat) s,m[j]? = some s→s=s0∨s.1 % (l.length:Int)=((k+j:Nat):Int))→(some13 m).Pairwise fun a b=>a.1≠b.1:=by
    intro m
    induction m with
    | nil=>intro k _;exact .nil
    | cons x m ih =>
      intro k hm
      have ih':=ih (k+1) (fun j s hs=>by
        have:=hm (j+1) s hs
        rwa [show k+(j+1)=k+1+j by omega] at this)
      unfold some13 at *
      by_cases hx:x=s0
      · rw[List.filter_cons_of_neg (by simp[hx])];exact ih'
      · rw[List.filter_cons_of_pos (by simp[hx])]
        refine List.pairwise_cons.2 ⟨fun y hy => ?_,ih'⟩
        have hy':=List.mem_filter.1 hy
        obtain ⟨j,hj⟩:=List.getElem?_of_mem hy'.1
        have h1:=(hm 0 x rfl).resolve_left hx
        have h2:=(hm (j+1) y hj).resolve_left (by simpa using hy'.2)
        intro e
        rw[e,h2] at h1
        omega
  exact key l 0 (fun j s hs=>by
    rcases h.s j s hs with e | e
    · exact .inl e
    · exact .inr (by rw[e.1,Nat.zero_add]))
def tall (l:List Slo):List Slo:=(some13 l).mergeSort fun a b=>decide (a.1≤b.1)
def within (l:List Slo) (i k:Int):List Cel:=((tall l).filter fun s=>decide (i≤s.1∧s.1<k)).map (·.2)
def tfold (l:List Slo) (i k:Int):Cel×Int:=if i<0∨k<i then (z0,1) else allE z0 (within l i k)
end Go.Plim

namespace Go.Proofs.YtgkpkajaepphjaaGreatDoor
open Go.Flat Go.Plim
set_option linter.unusedVariables false
set_option linter.unusedSimpArgs false
structure SloW (s:Slo):Prop where
  i:I64 s.1
  c:CelW s.2
def OfP (t w:Int):Prop:=0≤t∧t<35184372088832∧1≤w∧w≤1099511627776
instance (t w:Int):Decidable (OfP t w):=by unfold OfP;infer_instance
section
variable {del:TSlot×Unit→Option Bool} {p:Slo→Bool} (hd:∀x,del (x,())=some (p x))
include hd
end
theorem ev_wf {e:Ev} (h:Wf tyEvent e):EvW e:=by
  obtain ⟨h1,h2,h3,_⟩:=h
  exact ⟨h1,h2,h3⟩
theorem cel_wf {c:Cel} (h:Wf tyCell c):CelW c:=by
  obtain ⟨h1,h2,h3,⟨h4,h5⟩,h6,h7,h8⟩:=h
  exact ⟨h1,ev_wf h2,ev_wf h3,⟨h4,h5⟩,h6,h7,h8⟩
theorem slow_s0:SloW s0:=⟨by simp[I64,s0],celW_z0⟩
theorem tierOk_w {l:List Slo} {w:Int} (h:TierOk l w):∀s∈l,SloW s:=by
  intro s hs
  obtain ⟨j,hj⟩:=List.getElem?_of_mem hs
  rcases h.s j s hj with rfl | ⟨_,hf⟩
  · exact slow_s0
  · have:=hf.i0
    exact ⟨by unfold I64;omega,.ofN hf.n⟩
end Go.Proofs.YtgkpkajaepphjaaGreatDoor

namespace Go.Plim
set_option linter.unusedVariables false
def rng (w:Int) (l:List Ev) (i k:Int):List Ev:=l.filter fun e=>decide (i≤e.1 / w∧e.1 / w<k)
def win (w:Int) (l:List Ev) (i:Int):List Ev:=l.filter fun e=>decide (e.1 / w=i)
structure TierInv (t:List Slo) (w:Int) (l:List Ev):Prop where
  ok:TierOk t w
  cells:∀s∈tall t,s.2=cellOf (win w l s.1)
  kept:∀i,(∃e∈l,e.1 / w=i)→(∀e∈l,e.1 / w<i+(t.length:Int))→(i,cellOf (win w l i))∈tall t
end Go.Plim

namespace Go.Proofs.YtgkpkajaepphjaaGreatDoor
open Go.Flat
abbrev Conf:=Int×((Int×(Int×Int))×((Int×(Int×Int))×(Int×Int)))
def prt (n e:Int):Int:=(n+e-1) / e
def plc (c:Conf):Int:=1+prt c.1 16+prt c.2.2.1.1 4+prt c.2.2.1.2.1 4+prt c.2.2.1.2.2 4
structure Rng (c:Conf):Prop where
  raw:1≤c.1∧c.1≤4096
  cap:1≤c.2.2.2.1∧c.2.2.2.1≤65536
  log:1≤c.2.2.2.2∧c.2.2.2.2≤8192
  w0:1≤c.2.1.1∧c.2.1.1≤1099511627776
  w1:1≤c.2.1.2.1∧c.2.1.2.1≤1099511627776
  w2:1≤c.2.1.2.2∧c.2.1.2.2≤1099511627776
  n0:1≤c.2.2.1.1∧c.2.2.1.1≤4096
  n1:1≤c.2.2.1.2.1∧c.2.2.1.2.1≤4096
  n2:1≤c.2.2.1.2.2∧c.2.2.1.2.2≤4096
structure OkC (c:Conf):Prop where
  rng:Rng c
  m1:c.2.1.2.1 % c.2.1.1=0
  d1:c.2.1.2.1 / c.2.1.1≤c.2.2.1.1
  m2:c.2.1.2.2 % c.2.1.2.1=0
  d2:c.2.1.2.2 / c.2.1.2.1≤c.2.2.1.2.1
  pl:plc c<c.2.2.2.2
end Go.Proofs.YtgkpkajaepphjaaGreatDoor
namespace Go.Proofs.YtgkpkajaepphjaaGreatDoor
open Go.Flat Go.Plim
set_option linter.unusedVariables false
abbrev Trs:=List Slo×(List Slo×List Slo)
noncomputable instance (c:Conf):Decidable (OkC c):=Classical.propDecidable _
structure FoldOk (c:Conf) (s:Trs):Prop where
  cok:OkC c
  n0:(s.1.length:Int)=c.2.2.1.1
  n1:(s.2.1.length:Int)=c.2.2.1.2.1
  n2:(s.2.2.length:Int)=c.2.2.1.2.2
  t0:TierOk s.1 c.2.1.1
  t1:TierOk s.2.1 c.2.1.2.1
  t2:TierOk s.2.2 c.2.1.2.2
def mk1 (c:Conf) (s:Trs) (i:Int):Cel×Int:=tfold s.1 (i*(c.2.1.2.1 / c.2.1.1)) ((i+1)*(c.2.1.2.1 / c.2.1.1))
theorem mul_div_le {a w m:Int} (hw:1≤w) (h:a≤m / w):a*w≤m :=
  Int.le_trans (Int.mul_le_mul_of_nonneg_right h (by omega)) (Int.ediv_mul_le m (by omega))
def Begins (w i:Int):Prop:=0≤i∧i≤35184372088831 / w
theorem Begins.mul {w i:Int} (hw:1≤w) (h:Begins w i):0≤i*w∧i*w≤35184372088831:=⟨Int.mul_nonneg h.1 (by omega),mul_div_le hw h.2⟩
end Go.Proofs.YtgkpkajaepphjaaGreatDoor
namespace Go.Proofs.YtgkpkajaepphjaaGreatDoor
open Go.Flat Go.Plim
set_option linter.unusedVariables false
set_option linter.unusedSimpArgs false
structure TrsW (s:Trs):Prop where
  a:∀x∈s.1,SloW x
  b:∀x∈s.2.1,SloW x
  c:∀x∈s.2.2,SloW x
theorem FoldOk.w {c:Conf} {s:Trs} (h:FoldOk c s):TrsW s:=⟨tierOk_w h.t0,tierOk_w h.t1,tierOk_w h.t2⟩
noncomputable def emp (c:Conf):Trs:=if OkC c then (List.replicate c.2.2.1.1.toNat s0,(List.replicate c.2.2.1.2.1.toNat s0,List.replicate c.2.2.1.2.2.toNat s0)) else ([],([],[]))
abbrev Ser:=List Lab×(Int×(Rw×(Trs×Slo)))
structure SerW (s:Ser):Prop where
  last:I64 s.2.1
  raw:RawW s.2.2.1
  trs:TrsW s.2.2.2.1
  opn:SloW s.2.2.2.2
def NoBehind (l:List Slo) (i:Int):Prop:=∀s∈l,0<s.2.1→s.1<i
structure Fresh (s:Ser):Prop where
  raw:s.2.2.1.2.2=[]
  opn:s.2.2.2.2=s0
  b0:NoBehind s.2.2.2.1.1 0
  b1:NoBehind s.2.2.2.1.2.1 0
  b2:NoBehind s.2.2.2.1.2.2 0
structure EndsP (c:Conf) (s:Ser):Prop where
  last:∃e,s.2.2.1.2.2.getLast? = some e∧e.1=s.2.1
  ol:s.2.2.2.2.2.2.2.1.1=s.2.1
  fit:FitsP s.2.2.2.2.2 c.2.1.1 s.2.2.2.2.1
  b0:NoBehind s.2.2.2.1.1 (s.2.1 / c.2.1.1)
  b1:NoBehind s.2.2.2.1.2.1 (s.2.1 / c.2.1.2.1)
  b2:NoBehind s.2.2.2.1.2.2 (s.2.1 / c.2.1.2.2)
structure SerOk (c:Conf) (s:Ser):Prop where
  fold:FoldOk c s.2.2.2.1
  lab:LabOk s.1
  raw:RawOk s.2.2.1 c.1
  st:(s.2.1 = -1∧Fresh s)∨(s.2.1 ≠ -1∧EndsP c s)
noncomputable instance (c s):Decidable (SerOk c s):=Classical.propDecidable _
theorem nn {α:Type} {a b:α} (h:a=b):¬(a≠b):=fun k=>k h
def ser0:Ser:=([],(0,(r0w,(([],([],[])),s0))))
end Go.Proofs.YtgkpkajaepphjaaGreatDoor

namespace Go.Plim
set_option linter.unusedVariables false
def below (w:Int) (l:List Ev) (t:Int):List Ev:=l.filter fun e=>decide (e.1 / w<t / w)
structure EndsAt (l:List Ev) (t:Int):Prop where
  foll:Foll l
  le:∀e∈l,e.1≤t
  last:∃e∈l,e.1=t
end Go.Plim
namespace Go.Proofs.YtgkpkajaepphjaaGreatDoor
open Go.Flat Go.Plim
structure FInv (c:Conf) (s:Trs) (l:List Ev) (t:Int):Prop where
  ok:FoldOk c s
  i0:TierInv s.1 c.2.1.1 (below c.2.1.1 l t)
  i1:TierInv s.2.1 c.2.1.2.1 (below c.2.1.2.1 l t)
  i2:TierInv s.2.2 c.2.1.2.2 (below c.2.1.2.2 l t)
end Go.Proofs.YtgkpkajaepphjaaGreatDoor
namespace Go.Proofs.YtgkpkajaepphjaaGreatDoor
open Go.Flat Go.Plim
set_option linter.unusedVariables false
set_option linter.unusedSimpArgs false
noncomputable def now1 (c:Conf) (s:Ser):Cel×Int:=mrgE (tfold s.2.2.2.1.1 (s.2.1 / c.2.1.2.1*(c.2.1.2.1 / c.2.1.1)) (s.2.1 / c.2.1.1)).1 s.2.2.2.2.2
noncomputable def now2 (c:Conf) (s:Ser):Cel×Int :=
  if (now1 c s).2≠0 then (z0,(now1 c s).2) else mrgE (tfold s.2.2.2.1.2.1 (s.2.1 / c.2.1.2.2*(c.2.1.2.2 / c.2.1.2.1)) (s.2.1 / c.2.1.2.1)).1 (now1 c s).1
structure At (c:Conf) (s:Ser):Prop where
  l0:0≤s.2.1
  l1:s.2.1<35184372088832
noncomputable def rangeV (ok:Prop) [Decidable ok] (i j last w:Int) (t:List Slo) (now:Cel×Int):Cel×Int :=
  if ok then (if i<0 then (z0,1) else if j<i then (z0,1) else if last = -1 then (z0,0) else if last / w<i then tfold t i j else if j≤last / w then tfold t i j else if now.2≠0 then (z0,now.2) else mrgE (tfold t i j).1 now.1) else (z0,2)
structure SerL (s:Ser):Prop where
  l:s.1.length≤1000000
  r:s.2.2.1.2.2.length≤1000000
  a:s.2.2.2.1.1.length≤1000000
  b:s.2.2.2.1.2.1.length≤1000000
  d:s.2.2.2.1.2.2.length≤1000000
structure SerM (s:Ser):Prop where
  l:s.1.length≤9223372036854775807
  r:s.2.2.1.2.2.length≤9223372036854775807
  a:s.2.2.2.1.1.length≤9223372036854775807
  b:s.2.2.2.1.2.1.length≤9223372036854775807
  d:s.2.2.2.1.2.2.length≤9223372036854775807
def oldV (now w m:Int):Int×Int:=if OfP now w∧1≤m∧m≤4096 then (if 0<now / w+1-m then now / w+1-m else 0,0) else (0,1)
noncomputable def goneV (t now w m:Int):Bool:=decide (OfP t w∧(oldV now w m).2=0∧t / w<(oldV now w m).1)
noncomputable def deadV (c:Conf) (last now:Int):Bool :=
  decide (OkC c)&&(goneV last now c.2.1.1 c.2.2.1.1&&(goneV last now c.2.1.2.1 c.2.2.1.2.1&&goneV last now c.2.1.2.2 c.2.2.1.2.2))
abbrev Sta:=Conf×(Int×(Int×List Ser))
structure StaW (s:Sta):Prop where
  len:s.2.2.2.length≤9223372036854775807
  ser:∀x∈s.2.2.2,SerW x∧SerM x
def Whole (s:Sta):Prop:=OkC s.1∧(s.2.2.2.length:Int)=s.1.2.2.2.1
def LvX (s:Sta) (x:Ser):Prop:=x≠ser0∧(s.2.2.1 = -1∨deadV s.1 x.2.1 s.2.2.1=false)
noncomputable instance (s x):Decidable (LvX s x):=Classical.propDecidable _
def TimeP (t:Int):Prop:=0≤t∧t<35184372088832
def Clock (s:Sta):Prop:=TimeP s.2.1∧(s.2.2.1 = -1∨TimeP s.2.2.1)∧s.2.2.1≤s.2.1
def mk (s:Sta):Int:=s.2.1 / s.1.2.1.1*s.1.2.1.1
def Twin (s:Sta) (i:Nat) (x:Ser):Prop:=LvX s x∧∃k,k<i∧∃y,s.2.2.2[k]? = some y∧LvX s y∧y.1=x.1
def RightX (s:Sta) (i:Nat) (x:Ser):Prop:=x=ser0∨(SerOk s.1 x∧0≤x.2.1∧x.2.1<mk s+s.1.2.1.1∧¬Twin s i x)
structure StaOk (s:Sta):Prop where
  whole:Whole s
  clock:Clock s
  right:∀(i:Nat) x,s.2.2.2[i]? = some x→RightX s i x
noncomputable instance (s):Decidable (StaOk s):=Classical.propDecidable _
theorem Whole.len {s:Sta} (h:Whole s):s.2.2.2.length≤65536:=by
  have:=h.1.rng.cap;have:=h.2;omega
theorem StaW.at {s:Sta} (h:StaW s) {i:Nat} {x:Ser} (hx:s.2.2.2[i]? = some x):SerW x∧SerM x:=h.ser x (List.mem_of_getElem? hx)
end Go.Proofs.YtgkpkajaepphjaaGreatDoor
namespace Go.Proofs.YtgkpkajaepphjaaGreatDoor
open Go.Flat Go.Plim
set_option linter.unusedVariables false
def OpenInv (c:Conf) (s:Trs) (o:Slo) (l:List Ev):Prop :=
  (l=[]∧o=s0∧∀t,FInv c s [] t)∨∃t,EndsAt l t∧FInv c s l t∧o=(t / c.2.1.1,cellOf (win c.2.1.1 l (t / c.2.1.1)))
theorem OpenInv.fold {c:Conf} {s:Trs} {o:Slo} {l:List Ev} (h:OpenInv c s o l):FoldOk c s:=by
  rcases h with ⟨_,_,h⟩ | ⟨t,_,h,_⟩
  · exact (h 0).ok
  · exact h.ok
end Go.Proofs.YtgkpkajaepphjaaGreatDoor
namespace Go.Proofs.YtgkpkajaepphjaaGreatDoor
open Go.Flat Go.Plim
set_option linter.unusedVariables false
set_option linter.unusedSimpArgs false
def rawOf (room:Int) (l:List Ev):Rw :=
  (if (l.length:Int)≤room then 0 else (l.length:Int)-room,(if (l.length:Int)≤room then 0 else ((l[l.length-room.toNat-1]?).getD e0).1,l.drop (l.length-room.toNat)))
structure SerInv (c:Conf) (s:Ser) (l:List Ev):Prop where
  lab:LabOk s.1
  len:l.length≤1000000
  raw:s.2.2.1=rawOf c.1 l
  opn:OpenInv c s.2.2.2.1 s.2.2.2.2 l
  last:(l=[]∧s.2.1 = -1)∨EndsAt l s.2.1
theorem SerInv.foll {c:Conf} {s:Ser} {l:List Ev} (h:SerInv c s l):Foll l:=by
  rcases h.last with ⟨rfl,_⟩ | h
  · exact Foll.nil
  · exact h.foll
theorem ends_getLast {l:List Ev} {t:Int} (h:EndsAt l t):∃e,l.getLast? = some e∧e.1=t:=by
  obtain ⟨x,hx,hxt⟩:=h.last
  rcases List.eq_nil_or_concat l with rfl | ⟨p,y,rfl⟩
  · cases hx
  rw[List.concat_eq_append] at *
  have h1:=h.le y (by simp)
  refine ⟨y,by simp,?_⟩
  rcases List.mem_append.1 hx with q | q
  · have:=(foll_append.1 h.foll).2.2 x q y (by simp);omega
  · simp at q;rw[←q];exact hxt
theorem ends_uniq {l:List Ev} {t u:Int} (h:EndsAt l t) (k:EndsAt l u):t=u:=by
  obtain ⟨e,h1,h2⟩:=ends_getLast h
  obtain ⟨e',k1,k2⟩:=ends_getLast k
  rw[h1] at k1;simp at k1;rw[←h2,←k2,k1]
theorem SerInv.at_ {c:Conf} {s:Ser} {l:List Ev} (h:SerInv c s l) (hl:l≠[]):EndsAt l s.2.1∧FInv c s.2.2.2.1 l s.2.1∧s.2.2.2.2=(s.2.1 / c.2.1.1,cellOf (win c.2.1.1 l (s.2.1 / c.2.1.1))):=by
  have he:=h.last.resolve_left fun k=>hl k.1
  rcases h.opn with k | ⟨t,k1,k2,k3⟩
  · exact absurd k.1 hl
  · have:=ends_uniq he k1
    subst this
    exact ⟨he,k2,k3⟩
noncomputable def findV (s:Sta) (l:List Lab):Option Nat:=s.2.2.2.findIdx? fun x=>decide (x.1=l∧LvX s x)
noncomputable def roomV (s:Sta):Option Nat:=s.2.2.2.findIdx? fun x=>decide (¬LvX s x)
theorem findV_some {s:Sta} {l:List Lab} {i:Nat}:findV s l=some i↔∃x,s.2.2.2[i]? = some x∧x.1=l∧LvX s x∧∀j,j<i→∀y,s.2.2.2[j]? = some y→¬(y.1=l∧LvX s y):=by
  unfold findV
  rw[List.findIdx?_eq_some_iff_getElem]
  constructor
  · rintro ⟨h,h1,h2⟩
    have h1:=of_decide_eq_true h1
    refine ⟨_,List.getElem?_eq_getElem h,h1.1,h1.2,fun j hj y hy => ?_⟩
    obtain ⟨hjl,e⟩:=List.getElem?_eq_some_iff.1 hy
    have:=h2 j hj
    rw[e] at this
    simpa using this
  · rintro ⟨x,hx,h1,h2,h3⟩
    obtain ⟨hl,e⟩:=List.getElem?_eq_some_iff.1 hx
    refine ⟨hl,by rw[e];exact decide_eq_true ⟨h1,h2⟩,fun j hj => ?_⟩
    have:=h3 j hj _ (List.getElem?_eq_getElem (by omega))
    simpa using this
end Go.Proofs.YtgkpkajaepphjaaGreatDoor
namespace Go.Proofs.YtgkpkajaepphjaaGreatDoor
open Go.Flat
def rd (st:List UInt8×Bool) (k:Nat):Int×(List UInt8×Bool):=if st.2=true∨st.1.length<k then (0,([],true)) else (valI (bytesI (st.1.take k)),(st.1.drop k,false))
def q0 (s:List UInt8):=rd (s,false) 4
def q1 (s:List UInt8):=rd (q0 s).2 8
def q2 (s:List UInt8):=rd (q1 s).2 8
def q3 (s:List UInt8):=rd (q2 s).2 8
def q4 (s:List UInt8):=rd (q3 s).2 4
def q5 (s:List UInt8):=rd (q4 s).2 4
def q6 (s:List UInt8):=rd (q5 s).2 4
def q7 (s:List UInt8):=rd (q6 s).2 4
def q8 (s:List UInt8):=rd (q7 s).2 4
def q9 (s:List UInt8):=rd (q8 s).2 8
structure Full (s:List UInt8):Prop where
  z:(q9 s).1=0
  good:(q9 s).2.2=false
  left:(q9 s).2.1=[]
def idxC (c:Conf):Int:=prt c.2.2.2.2 120
def hom (c:Conf):Int:=1+idxC c+c.2.2.2.2
end Go.Proofs.YtgkpkajaepphjaaGreatDoor
namespace Go.Proofs.YtgkpkajaepphjaaGreatDoor
open Go.Flat Go.Plim
set_option linter.unusedVariables false
set_option linter.unusedSimpArgs false
theorem r06_same_l4 (n:Nat) (a:List Int) (hL:a.length≤1000000):∀(rest pre:List Int) (f:Nat) (ix len:Int),a=pre++rest→ix=pre.length→len=a.length→rest.length<f→r06_Same_l4 n f (a,a,len,ix,())=some (.inl ()):=by
  intro rest
  induction rest with
  | nil =>
    intro pre f ix len hl hi hn hf
    obtain ⟨f,rfl⟩:∃g,f=g+1:=⟨f-1,by simp at hf;omega⟩
    rw[r06_Same_l4_eq]
    simp only[tfd,if_neg (idxe hl hi hn)]
  | cons x rest ih =>
    intro pre f ix len hl hi hn hf
    obtain ⟨f,rfl⟩:∃g,f=g+1:=⟨f-1,by simp at hf;omega⟩
    rw[r06_Same_l4_eq]
    simp only[tfd,if_pos (idx hl hi hn),at_mid hl hi,obs,decide_true,Bool.not_true,tff,idxw hl hi (show a.length≤1000000000000 by omega)]
    exact ih (pre++[x]) f (ix+1) len (idxl hl) (idxs hi) hn (by simp at hf;omega)
theorem r06_same_refl (n:Nat) (a:List Int) (hL:a.length≤1000000):r06_Same (n+1) a a=some true:=by
  rw[r06_Same_eq]
  simp only[decide_true,Bool.not_true,tff,r06_same_l4 n a hL a [] loopFuel 0 _ rfl rfl rfl (by unfold loopFuel;omega),obs,selim_inl]
structure Goes (s:Sta) (l:List Lab) (e:Ev):Prop where
  st:StaOk s
  lab:LabOk l
  ev:EvOk e
  lo:mk s≤e.1
  hi:e.1<mk s+s.1.2.1.1
inductive PlaceAt (s:Sta) (l:List Lab) (e:Ev):Nat→Ser→Bool→Prop
  | found {i:Nat} {x:Ser} (hf:findV s l=some i) (hx:s.2.2.2[i]? = some x) (hl:x.1=l) (hlv:LvX s x) (ht:x.2.1<e.1):PlaceAt s l e i x false
  | room {i:Nat} (hf:findV s l=none) (hs:e.2.2.2=false) (hr:roomV s=some i):PlaceAt s l e i (l,(-1,(r0w,(emp s.1,s0)))) true
def tierW (c:Conf) (k:Int):Int:=if k=0 then c.2.1.1 else if k=1 then c.2.1.2.1 else c.2.1.2.2
def tierN (c:Conf) (k:Int):Int:=if k=0 then c.2.2.1.1 else if k=1 then c.2.2.1.2.1 else c.2.2.1.2.2
structure Ends3 (c:Conf) (s:Ser):Prop where
  t0:s.2.1 = -1∨NoBehind s.2.2.2.1.1 (s.2.1 / c.2.1.1)∧CellN s.2.2.2.2.2∧s.2.2.2.2.2.2.1.1 / c.2.1.1=s.2.1 / c.2.1.1
  t1:s.2.1 = -1∨∃m,now1 c s=(m,0)∧NoBehind s.2.2.2.1.2.1 (s.2.1 / c.2.1.2.1)∧CellN m∧m.2.1.1 / c.2.1.2.1=s.2.1 / c.2.1.2.1
  t2:s.2.1 = -1∨∃m,now2 c s=(m,0)∧NoBehind s.2.2.2.1.2.2 (s.2.1 / c.2.1.2.2)∧CellN m∧m.2.1.1 / c.2.1.2.2=s.2.1 / c.2.1.2.2
noncomputable def rangeK (c:Conf) (s:Ser) (k i j:Int):Cel×Int :=
  if k=0 then rangeV (SerOk c s) i j s.2.1 c.2.1.1 s.2.2.2.1.1 (s.2.2.2.2.2,0)
  else if k=1 then rangeV (SerOk c s) i j s.2.1 c.2.1.2.1 s.2.2.2.1.2.1 (now1 c s)
  else rangeV (SerOk c s) i j s.2.1 c.2.1.2.2 s.2.2.2.1.2.2 (now2 c s)
theorem live_ok {s:Sta} (h:StaOk s) {x:Ser} (hx:x∈s.2.2.2) (hl:LvX s x):SerOk s.1 x∧0≤x.2.1:=by
  obtain ⟨i,hi,e⟩:=List.getElem_of_mem hx
  rcases h.right i x (by rw[List.getElem?_eq_getElem hi,e]) with k | k
  · exact absurd k hl.1
  · exact ⟨k.1,k.2.1⟩
end Go.Proofs.YtgkpkajaepphjaaGreatDoor

namespace Go.Plim
set_option linter.unusedVariables false
def tz:Nat→Nat→Nat
  | 0,_=>0
  | k+1,x=>if x % 2=1 then 0 else tz k (x / 2)+1
def bl:Nat→Nat→Nat
  | 0,_=>0
  | k+1,x=>if x=0 then 0 else bl k (x / 2)+1
end Go.Plim

namespace Go.Plim
set_option linter.unusedVariables false
def ofN (x:Nat):Wd:=(((x / 18446744073709551616:Nat):Int),((x % 18446744073709551616:Nat):Int))
theorem mkW_nat (x:Nat):mkW (x:Int)=ofN x:=by
  unfold mkW ofN;rw[Prod.mk.injEq];constructor<;>omega
theorem ofN_of {a:Wd} (h:WdOk a):∃x:Nat,x<340282366920938463463374607431768211456∧a=ofN x∧wv a=x:=by
  obtain ⟨h1,h2⟩:=wv_range h
  obtain ⟨x,hx⟩:=Int.eq_ofNat_of_zero_le h1
  exact ⟨x,by omega,by rw[←mkW_wv h,hx,mkW_nat],hx⟩
theorem wv_ofN (x:Nat):wv (ofN x)=x:=by rw[←mkW_nat,wv_mkW]
theorem ofN_ok {x:Nat} (h:x<340282366920938463463374607431768211456):WdOk (ofN x):=by rw[←mkW_nat];exact mkW_ok (by omega) (by omega)
end Go.Plim

namespace Go.Plim
set_option linter.unusedVariables false
def byt (v j:Nat):Nat:=v / 256^j % 256
theorem byt_lt (v j:Nat):byt v j<256:=Nat.mod_lt _ (by decide)
end Go.Plim

namespace Go.Proofs.YtgkpkajaepphjaaGreatDoor
open Go.Flat Go.Plim
set_option linter.unusedVariables false
set_option linter.unusedSimpArgs false
end Go.Proofs.YtgkpkajaepphjaaGreatDoor
namespace Go.Proofs.YtgkpkajaepphjaaGreatDoor
open Go.Flat Go.Plim
set_option linter.unusedVariables false
end Go.Proofs.YtgkpkajaepphjaaGreatDoor
namespace Go.Proofs.YtgkpkajaepphjaaGreatDoor
open Go.Flat Go.Plim
set_option linter.unusedVariables false
set_option linter.unusedSimpArgs false
def bys (x:Nat):List Int:=(List.range 16).map fun j=>((byt x j:Nat):Int)
theorem bys_len (x:Nat):(bys x).length=16:=by simp[bys]
theorem bys_at (x:Nat) {j:Nat} (h:j<16):(bys x)[j]? = some ((byt x j:Nat):Int):=by
  unfold bys;rw[List.getElem?_map,List.getElem?_range h];rfl
theorem bys_eq (x:Nat):bys x=[((x % 256:Nat):Int),((x / 256 % 256:Nat):Int),((x / 65536 % 256:Nat):Int),((x / 16777216 % 256:Nat):Int),((x / 4294967296 % 256:Nat):Int),((x / 1099511627776 % 256:Nat):Int),((x / 281474976710656 % 256:Nat):Int),((x / 72057594037927936 % 256:Nat):Int),
    ((x / 18446744073709551616 % 256:Nat):Int),((x / 4722366482869645213696 % 256:Nat):Int),((x / 1208925819614629174706176 % 256:Nat):Int),((x / 309485009821345068724781056 % 256:Nat):Int),((x / 79228162514264337593543950336 % 256:Nat):Int),((x / 20282409603651670423947251286016 % 256:Nat):Int),((x / 5192296858534827628530496329220096 % 256:Nat):Int),((x / 1329227995784915872903807060280344576 % 256:Nat):Int)]:=by
  unfold bys byt
  simp[List.range,List.range.loop]
abbrev l16 (r:B16):List Int:=[r.1,r.2.1,r.2.2.1,r.2.2.2.1,r.2.2.2.2.1,r.2.2.2.2.2.1,r.2.2.2.2.2.2.1,r.2.2.2.2.2.2.2.1,r.2.2.2.2.2.2.2.2.1,r.2.2.2.2.2.2.2.2.2.1,r.2.2.2.2.2.2.2.2.2.2.1,r.2.2.2.2.2.2.2.2.2.2.2.1,r.2.2.2.2.2.2.2.2.2.2.2.2.1,r.2.2.2.2.2.2.2.2.2.2.2.2.2.1,r.2.2.2.2.2.2.2.2.2.2.2.2.2.2.1,r.2.2.2.2.2.2.2.2.2.2.2.2.2.2.2]
theorem bys_list (x:Nat):bys x=[((byt x 0:Nat):Int),((byt x 1:Nat):Int),((byt x 2:Nat):Int),((byt x 3:Nat):Int),((byt x 4:Nat):Int),((byt x 5:Nat):Int),((byt x 6:Nat):Int),((byt x 7:Nat):Int),((byt x 8:Nat):Int),((byt x 9:Nat):Int),((byt x 10:Nat):Int),((byt x 11:Nat):Int),((byt x 12:Nat):Int),((byt x 13:Nat):Int),((byt x 14:Nat):Int),((byt x 15:Nat):Int)]:=by
  unfold bys
  simp[List.range,List.range.loop]
theorem digits8 {v x0 x1 x2 x3 x4 x5 x6 x7:Int} (b:Byt x0∧Byt x1∧Byt x2∧Byt x3∧Byt x4∧Byt x5∧Byt x6∧Byt x7) (h:v=x0+x1*256+x2*65536+x3*16777216+x4*4294967296+x5*1099511627776+x6*281474976710656+x7*72057594037927936) :
    x0=v % 256∧x1=v / 256 % 256∧x2=v / 65536 % 256∧x3=v / 16777216 % 256∧x4=v / 4294967296 % 256∧x5=v / 1099511627776 % 256∧x6=v / 281474976710656 % 256∧x7=v / 72057594037927936 % 256:=by
  simp only[Byt] at b
  obtain ⟨⟨_,_⟩,⟨_,_⟩,⟨_,_⟩,⟨_,_⟩,⟨_,_⟩,⟨_,_⟩,⟨_,_⟩,⟨_,_⟩⟩:=b
  refine ⟨?_,?_,?_,?_,?_,?_,?_,?_⟩<;>omega
theorem r01_bytesN (n:Nat) {x:Nat} (h:x<340282366920938463463374607431768211456):∃r:B16,r01_Bytes (n+1) (ofN x)=some r∧l16 r=bys x:=by
  obtain ⟨x0,x1,x2,x3,x4,x5,x6,x7,x8,x9,x10,x11,x12,x13,x14,x15,hr,⟨b0,b1,b2,b3,b4,b5,b6,b7,b8,b9,b10,b11,b12,b13,b14,b15⟩,hlo,hhi⟩:=r01_bytes n (ofN_ok h)
  refine ⟨_,hr,?_⟩
  obtain ⟨c0,c1,c2,c3,c4,c5,c6,c7⟩:=digits8 ⟨b0,b1,b2,b3,b4,b5,b6,b7⟩ hlo
  obtain ⟨d0,d1,d2,d3,d4,d5,d6,d7⟩:=digits8 ⟨b8,b9,b10,b11,b12,b13,b14,b15⟩ hhi
  have elo:(ofN x).2=((x % 18446744073709551616:Nat):Int):=rfl
  have ehi:(ofN x).1=((x / 18446744073709551616:Nat):Int):=rfl
  rw[elo] at c0 c1 c2 c3 c4 c5 c6 c7
  rw[ehi] at d0 d1 d2 d3 d4 d5 d6 d7
  rw[bys_eq]
  simp only[l16]
  clear hr hlo hhi b0 b1 b2 b3 b4 b5 b6 b7 b8 b9 b10 b11 b12 b13 b14 b15
  subst c0 c1 c2 c3 c4 c5 c6 c7 d0 d1 d2 d3 d4 d5 d6 d7
  simp only[List.cons.injEq,and_true]
  refine ⟨?_,?_,?_,?_,?_,?_,?_,?_,?_,?_,?_,?_,?_,?_,?_,?_⟩
  all_goals omega
theorem r01_ofN (n:Nat) {x:Nat} (h:x<340282366920938463463374607431768211456):r01_Of (n+1) (((byt x 0:Nat):Int),((byt x 1:Nat):Int),((byt x 2:Nat):Int),((byt x 3:Nat):Int),((byt x 4:Nat):Int),((byt x 5:Nat):Int),((byt x 6:Nat):Int),((byt x 7:Nat):Int),((byt x 8:Nat):Int),((byt x 9:Nat):Int),((byt x 10:Nat):Int),((byt x 11:Nat):Int),((byt x 12:Nat):Int),((byt x 13:Nat):Int),((byt x 14:Nat):Int),((byt x 15:Nat):Int))=some (ofN x):=by
  obtain ⟨r,hr,hl⟩:=r01_bytesN n h
  obtain ⟨x0,x1,x2,x3,x4,x5,x6,x7,x8,x9,x10,x11,x12,x13,x14,x15,hr',hb,hlo,hhi⟩:=r01_bytes n (ofN_ok h)
  have hr':=Option.some.inj (hr.symm.trans hr')
  subst hr'
  rw[bys_list] at hl
  simp only[l16,List.cons.injEq,and_true] at hl
  obtain ⟨rfl,rfl,rfl,rfl,rfl,rfl,rfl,rfl,rfl,rfl,rfl,rfl,rfl,rfl,rfl,rfl⟩:=hl
  obtain ⟨b0,b1,b2,b3,b4,b5,b6,b7,b8,b9,b10,b11,b12,b13,b14,b15⟩:=hb
  rw[r01_of n b0 b1 b2 b3 b4 b5 b6 b7 b8 b9 b10 b11 b12 b13 b14 b15,←hlo,←hhi]
theorem r01_ofL (n:Nat) {x:Nat} (h:x<340282366920938463463374607431768211456) {R:Type} (k:Wd→Option R) {l:List Int} (hl:l=bys x) :
    (obind (l[0]?) fun r0=>obind (l[1]?) fun r1=>obind (l[2]?) fun r2=>obind (l[3]?) fun r3=>obind (l[4]?) fun r4=>obind (l[5]?) fun r5=>obind (l[6]?) fun r6=>obind (l[7]?) fun r7=>obind (l[8]?) fun r8=>obind (l[9]?) fun r9=>obind (l[10]?) fun r10=>obind (l[11]?) fun r11=>obind (l[12]?) fun r12=>obind (l[13]?) fun r13=>obind (l[14]?) fun r14=>obind (l[15]?) fun r15=>obind (r01_Of (n+1) (r0,(r1,(r2,(r3,(r4,(r5,(r6,(r7,(r8,(r9,(r10,(r11,(r12,(r13,(r14,r15)))))))))))))))) k)=k (ofN x):=by
  subst hl
  have e:∀j:Nat,j<16→(bys x)[j]? = some ((byt x j:Nat):Int):=fun j hj=>bys_at x hj
  rw[e 0 (by decide),e 1 (by decide),e 2 (by decide),e 3 (by decide),e 4 (by decide),e 5 (by decide),e 6 (by decide),e 7 (by decide),e 8 (by decide),e 9 (by decide),e 10 (by decide),e 11 (by decide),e 12 (by decide),e 13 (by decide),e 14 (by decide),e 15 (by decide)]
  simp only[obs,r01_ofN n h]
theorem r01_lessN (n:Nat) {x y:Nat} (hx:x<340282366920938463463374607431768211456) (hy:y<340282366920938463463374607431768211456):r01_Less (n+2) (ofN x) (ofN y)=some (decide (x<y)):=by
  rw[r01_less n (ofN_ok hx) (ofN_ok hy),wv_ofN,wv_ofN]
  congr 1
  exact decide_eq_decide.2 (by omega)
def subL (A B i:Nat):List Int:=(List.range 16).map fun j=>(((if j<i then byt (A-B) j else byt A j):Nat):Int)
def owe (A B i:Nat):Nat:=if A % 256^i<B % 256^i then 1 else 0
theorem subL_len (A B i:Nat):(subL A B i).length=16:=by simp[subL]
theorem subL_at (A B i:Nat) {j:Nat} (h:j<16):(subL A B i)[j]? = some (((if j<i then byt (A-B) j else byt A j):Nat):Int):=by
  unfold subL;rw[List.getElem?_map,List.getElem?_range h];rfl
theorem subL_set (A B:Nat) {i:Nat} (h:i<16):(subL A B i).set i ((byt (A-B) i:Nat):Int)=subL A B (i+1):=by
  apply List.ext_getElem?
  intro j
  rw[List.getElem?_set,subL_len]
  by_cases hj:j<16
  · rw[subL_at _ _ _ hj,subL_at _ _ _ hj]
    by_cases e:i=j
    · subst e;rw[if_pos rfl,if_pos h,if_pos (by omega)]
    · rw[if_neg e]
      by_cases hlt:j<i
      · rw[if_pos hlt,if_pos (by omega)]
      · rw[if_neg hlt,if_neg (by omega)]
  · rw[if_neg (by omega),List.getElem?_eq_none (by rw[subL_len];omega),List.getElem?_eq_none (by rw[subL_len];omega)]
theorem owe_step {A B:Nat} (hle:B≤A) (i:Nat) :
    (byt A i<byt B i+owe A B i→owe A B (i+1)=1∧byt (A-B) i+byt B i+owe A B i=byt A i+256) ∧
    (byt B i+owe A B i≤byt A i→owe A B (i+1)=0∧byt (A-B) i+byt B i+owe A B i=byt A i):=by
  have hp:0<256^i:=Nat.pow_pos (by decide)
  have ea:=Nat.div_add_mod A (256^i)
  have eb:=Nat.div_add_mod B (256^i)
  have la:=Nat.mod_lt A hp
  have lb:=Nat.mod_lt B hp
  have ea2:A % 256^(i+1)=256^i*(A / 256^i % 256)+A % 256^i:=by rw[Nat.pow_succ,Nat.mod_mul];omega
  have eb2:B % 256^(i+1)=256^i*(B / 256^i % 256)+B % 256^i:=by rw[Nat.pow_succ,Nat.mod_mul];omega
  unfold owe byt
  rw[ea2,eb2]
  generalize hP:256^i=P at *
  generalize hA':A / P=A' at *
  generalize hB':B / P=B' at *
  generalize ha:A % P=a at *
  generalize hb:B % P=b at *
  have key:(A-B) / P+B'+(if a<b then 1 else 0)=A':=by
    by_cases hlt:a<b
    · rw[if_pos hlt]
      have hAB:B'+1≤A':=by
        rcases Nat.lt_or_ge B' A' with q | q
        · exact q
        · have:=Nat.mul_le_mul_left P q;omega
      obtain ⟨c,hc⟩:∃c,A'=B'+1+c:=⟨A'-(B'+1),by omega⟩
      have e1:P*A'=P*B'+P+P*c:=by rw[hc,Nat.mul_add,Nat.mul_add,Nat.mul_one]
      have e2:A-B=P*c+(P+a-b):=by omega
      rw[e2,Nat.mul_add_div hp,Nat.div_eq_of_lt (by omega)]
      omega
    · rw[if_neg hlt]
      have hAB:B'≤A':=by
        rcases Nat.lt_or_ge A' B' with q | q
        · have:=Nat.mul_le_mul_left P q
          rw[Nat.mul_succ] at this
          omega
        · exact q
      obtain ⟨c,hc⟩:∃c,A'=B'+c:=⟨A'-B',by omega⟩
      have e1:P*A'=P*B'+P*c:=by rw[hc,Nat.mul_add]
      have e2:A-B=P*c+(a-b):=by omega
      rw[e2,Nat.mul_add_div hp,Nat.div_eq_of_lt (by omega)]
      omega
  generalize (A-B) / P=D at *
  have cmp:(P*(A' % 256)+a<P*(B' % 256)+b)↔(A' % 256<B' % 256∨A' % 256=B' % 256∧a<b):=by
    rcases Nat.lt_trichotomy (A' % 256) (B' % 256) with q | q | q
    · have:=Nat.mul_le_mul_left P q
      rw[Nat.mul_succ] at this
      constructor
      · intro _;exact .inl q
      · intro _;omega
    · rw[q];constructor
      · intro h;exact .inr ⟨rfl,by omega⟩
      · rintro (h | ⟨_,h⟩)<;>omega
    · have:=Nat.mul_le_mul_left P q
      rw[Nat.mul_succ] at this
      constructor
      · intro h;omega
      · rintro (h | ⟨h,_⟩)<;>omega
  by_cases hab:a<b
  · simp only[if_pos hab] at key ⊢
    constructor
    · intro h
      rw[if_pos (cmp.2 (by omega))]
      exact ⟨rfl,by omega⟩
    · intro h
      rw[if_neg (fun q=>by have:=cmp.1 q;omega)]
      exact ⟨rfl,by omega⟩
  · simp only[if_neg hab] at key ⊢
    constructor
    · intro h
      rw[if_pos (cmp.2 (by omega))]
      exact ⟨rfl,by omega⟩
    · intro h
      rw[if_neg (fun q=>by have:=cmp.1 q;omega)]
      exact ⟨rfl,by omega⟩
theorem r01_sub_l6 (n:Nat) {A B:Nat} (hle:B≤A) (s4:Wd):∀(k f i:Nat),i+k=16→k<f →
    r01_Sub_l6 n f (s4,subL A B i,bys B,((owe A B i:Nat):Int),(i:Int),())=some (.inl (s4,bys (A-B),())):=by
  intro k
  induction k with
  | zero =>
    intro f i hi hf
    obtain ⟨f,rfl⟩:∃g,f=g+1:=⟨f-1,by omega⟩
    have:i=16:=by omega
    subst this
    rw[r01_Sub_l6_eq,decide_eq_false (by decide),tff]
    congr 3
  | succ k ih =>
    intro f i hi hf
    obtain ⟨f,rfl⟩:∃g,f=g+1:=⟨f-1,by omega⟩
    have hlt:i<16:=by omega
    have g1:=byt_lt A i
    have g2:=byt_lt B i
    have g3:=byt_lt (A-B) i
    have g4:owe A B i≤1:=by unfold owe;split<;>omega
    obtain ⟨s1,s2⟩:=owe_step hle i
    have next:=ih f (i+1) (by omega) (by omega)
    rw[r01_Sub_l6_eq,subL_len,bys_len,Int.toNat_natCast,subL_at _ _ _ hlt,bys_at _ hlt,if_neg (Nat.lt_irrefl i)]
    simp only[decide_eq_true (show (i:Int)<16 by omega),decide_eq_true (show (0:Int)≤(i:Int) by omega),decide_eq_true (show (i:Int)<((16:Nat):Int) by omega),Bool.and_self,tft,obs]
    rw[w64 (x:=((byt A i:Nat):Int)-((byt B i:Nat):Int)) (by omega) (by omega),w64 (x:=((byt A i:Nat):Int)-((byt B i:Nat):Int)-((owe A B i:Nat):Int)) (by omega) (by omega),w64 (x:=(i:Int)+1) (by omega) (by omega),tfd]
    by_cases h:byt A i<byt B i+owe A B i
    · obtain ⟨t1,t2⟩:=s1 h
      rw[t1] at next
      rw[if_pos (by omega),w64 (by omega) (by omega),show ((byt A i:Nat):Int)-((byt B i:Nat):Int)-((owe A B i:Nat):Int)+256=((byt (A-B) i:Nat):Int) by omega,subL_set _ _ hlt]
      exact next
    · obtain ⟨t1,t2⟩:=s2 (by omega)
      rw[t1] at next
      rw[if_neg (by omega),show ((byt A i:Nat):Int)-((byt B i:Nat):Int)-((owe A B i:Nat):Int)=((byt (A-B) i:Nat):Int) by omega,subL_set _ _ hlt]
      exact next
theorem r01_subN (n:Nat) {A B:Nat} (hA:A<340282366920938463463374607431768211456) (hle:B≤A):r01_Sub (n+3) (ofN A) (ofN B)=some (ofN (A-B),0):=by
  obtain ⟨ra,ha,hla⟩:=r01_bytesN (n+1) hA
  obtain ⟨rb,hb,hlb⟩:=r01_bytesN (n+1) (Nat.lt_of_le_of_lt hle hA)
  rw[r01_Sub_eq,r01_lessN n hA (Nat.lt_of_le_of_lt hle hA),obs,decide_eq_false (by omega),tff,ha,obs,hb,obs]
  rw[show (decide (16=((((((((((((((((1+1)+1)+1)+1)+1)+1)+1)+1)+1)+1)+1)+1)+1)+1)+1) / 1)))=true from rfl,tft,tft]
  have e0:subL A B 0=bys A:=by unfold subL bys;apply List.map_congr_left;intro j _;rw[if_neg (Nat.not_lt_zero j)]
  have:=r01_sub_l6 (n+2) hle (0,0) 16 loopFuel 0 rfl (by decide)
  rw[e0,show owe A B 0=0 by unfold owe;simp[Nat.mod_one],←hla,←hlb] at this
  change obind (r01_Sub_l6 (n+2) loopFuel ((0,0),l16 ra,l16 rb,((0:Nat):Int),((0:Nat):Int),())) _=_
  rw[this,obs,selim_inl]
  exact r01_ofL (n+1) (Nat.lt_of_le_of_lt (Nat.sub_le _ _) hA) (fun r=>some (r,0)) rfl
def redV (x y:Nat):(Wd×Wd)×Int:=if y=0 then (((0,0),(0,0)),1) else ((ofN (x / Nat.gcd x y),ofN (y / Nat.gcd x y)),0)
def rateV (a:Wd) (ms:Int):(Wd×Wd)×Int :=
  if ms=0 then (((0,0),(0,0)),12) else if wv a*1000<340282366920938463463374607431768211456 then redV (wv a*1000).toNat ms.toNat else (((0,0),(0,0)),1)
section
variable {del:Ev×Unit→Option Bool} {p:Ev→Bool} {L:List Ev} (hd:∀x∈L,del (x,())=some (p x))
include hd
end
def WidP (w:Int):Prop:=1≤w∧w≤1099511627776
instance (w:Int):Decidable (WidP w):=by unfold WidP;infer_instance
def RngP (a b:Int):Prop:=0≤a∧b≤35184372088832∧a<b
instance (a b:Int):Decidable (RngP a b):=by unfold RngP;infer_instance
def spanV (a b w:Int):Int×(Int×Int):=if WidP w∧RngP a b then (if a % w=0∧b % w=0 then (a / w,(b / w,0)) else (0,(0,10))) else (0,(0,1))
noncomputable def oneV (s:Sta) (k a b:Int):Int :=
  if (spanV a b (tierW s.1 k)).2.2=0 then (if (spanV a b (tierW s.1 k)).1<(oldV s.2.1 (tierW s.1 k) (tierN s.1 k)).1 then 11 else 0) else (spanV a b (tierW s.1 k)).2.2
noncomputable def whichV (s:Sta) (a b:Int):Nat→Int→Int→Int×Int
  | 0,_,why=>(0,why)
  | d+1,t,why=>if oneV s (t-1) a b=0 then (t,0) else if oneV s (t-1) a b=1 then (0,1) else whichV s a b d (t+1) (if oneV s (t-1) a b=11 then 11 else why)
noncomputable def tierV (s:Sta) (t a b:Int):Int×Int :=
  if StaOk s then (if t<0∨3<t then (0,1) else if t=0 then whichV s a b 3 1 10 else if oneV s (t-1) a b=0 then (t,0) else (0,oneV s (t-1) a b)) else (0,2)
def rateC (c:Cel):(Wd×Wd)×Int:=if c.2.2.2.2.2.2<1 then (((0,0),(0,0)),12) else rateV c.2.2.2.1 c.2.2.2.2.2.2
noncomputable def cellQ (s:Sta) (l:List Lab) (k a b:Int):Cel :=
  match findV s l with
  | some i=>(rangeK s.1 ((s.2.2.2[i]?).getD ser0) k (a / tierW s.1 k) (b / tierW s.1 k)).1
  | none=>z0
theorem found {s:Sta} (hs:StaOk s) {l:List Lab} {i:Nat} (h:findV s l=some i):∃x,s.2.2.2[i]? = some x∧x.1=l∧LvX s x∧SerOk s.1 x:=by
  obtain ⟨x,hx,h1,h2,_⟩:=findV_some.1 h
  exact ⟨x,hx,h1,h2,(live_ok hs (List.mem_of_getElem? hx) h2).1⟩
abbrev zr:Int×(Cel×((Wd×Wd)×Int)):=(0,(z0,(((0,0),(0,0)),0)))
noncomputable def doQ (s:Sta) (l:List Lab) (t a b:Int):(Int×(Cel×((Wd×Wd)×Int)))×Int :=
  if StaOk s then (if LabOk l then (if (tierV s t a b).2=0 then (((tierV s t a b).1,(cellQ s l ((tierV s t a b).1-1) a b,rateC (cellQ s l ((tierV s t a b).1-1) a b))),0) else (zr,(tierV s t a b).2)) else (zr,8)) else (zr,2)
structure Seg (c:Cel) (w lo hi:Int):Prop where
  ok:CellOk c
  w0:1≤w
  at':c=z0∨lo≤c.2.1.1 / w∧c.2.2.1.1 / w<hi
theorem Seg.mono {c:Cel} {w a b a' b':Int} (h:Seg c w a b) (h1:a'≤a) (h2:b≤b'):Seg c w a' b' :=
  ⟨h.ok,h.w0,h.at'.imp id fun k=>⟨by omega,by omega⟩⟩
def stp:Cel→List Cel→List Wd
  | _,[]=>[]
  | c,x::r=>mkW (wv (mrg c x).2.2.2.1-wv c.2.2.2.1)::stp (mrg c x) r
def hstpV (l:List Cel):List Wd×Int:=if (allE z0 l).2=0 then (stp z0 l,0) else ([],(allE z0 l).2)
theorem stp_len (l:List Cel):∀c,(stp c l).length=l.length:=by
  induction l with
  | nil=>intro c;rfl
  | cons x l ih=>intro c;simp[stp,ih]
theorem allE_step {c x:Cel} {r:List Cel} (h:(allE c (x::r)).2=0):CellOk c∧CellOk x∧Ahead c x∧mrgE c x=(mrg c x,0)∧(allE (mrg c x) r).2=0:=by
  unfold allE at h
  by_cases k:(mrgE c x).2=0
  · rw[if_pos k] at h
    obtain ⟨h1,h2,h3,h4,h5⟩:=mrgE_ok k
    rw[h4] at h
    exact ⟨h1,h2,h3,Prod.ext h4 k,h⟩
  · rw[if_neg k] at h;exact (k h).elim
theorem step_z {c:Cel}:mkW (wv (mrg c z0).2.2.2.1-wv c.2.2.2.1)=(0,0):=by
  rw[mrg_z0,Int.sub_self];rfl
theorem step_first {x:Cel} (hx:CellN x):mkW (wv (mrg z0 x).2.2.2.1-wv z0.2.2.2.1)=x.2.2.2.1:=by
  rw[z0_mrg]
  show mkW (wv x.2.2.2.1-wv (0,0))=_
  rw[wv_zero,Int.sub_zero,mkW_wv hx.w]
theorem step_next {c x:Cel} (hc:CellN c) (hx:CellN x):wv (mrg c x).2.2.2.1-wv c.2.2.2.1=(btw c.2.2.1 x.2.1).1+wv x.2.2.2.1:=by
  rw[mrg_n hc hx]
  simp only[wv_mkW]
  omega
theorem step_range {c x:Cel} (hc:CellN c) (hx:CellN x) (ha:c.2.2.1.1<x.2.1.1):0≤(btw c.2.2.1 x.2.1).1∧(btw c.2.2.1 x.2.1).1≤18446744073709551615∧wv x.2.2.2.1≤18446744073709551615*35184372088832∧0≤wv x.2.2.2.1:=by
  have hd:=(btw_ok hc.l hx.f ha).i
  have:=hx.inc;have:=hx.small;have:=wv_range hx.w
  omega
theorem wv_small {x:Int}:wv (0,x)=x:=wv_lo x
theorem set_pre {α:Type} {pre:List α} {m:Nat} {z v:α} {i:Int} (hi:i=pre.length):(pre++List.replicate (m+1) z).set i.toNat v=(pre++[v])++List.replicate m z:=by
  subst hi
  rw[List.replicate_succ]
  simp
theorem get_pre {α:Type} {pre:List α} {m:Nat} {z:α} {i:Int} (hi:i=pre.length):(pre++List.replicate (m+1) z)[i.toNat]? = some z:=by
  subst hi;simp
theorem at_pre {α:Type} {pre:List α} {m:Nat} {z:α} {i:Int} (hi:i=pre.length):at? (pre++List.replicate (m+1) z) i=some z:=by
  subst hi;simp[at?]
theorem set_two {α:Type} {pre:List α} {m:Nat} {v w z:α} {i:Int} (hi:i=pre.length):(((pre++[v])++List.replicate m z).set i.toNat w)=(pre++[w])++List.replicate m z:=by
  subst hi;simp
theorem get_two {α:Type} {pre:List α} {m:Nat} {v z:α} {i:Int} (hi:i=pre.length):((pre++[v])++List.replicate m z)[i.toNat]? = some v:=by
  subst hi;simp
theorem at_two {α:Type} {pre:List α} {m:Nat} {v z:α} {i:Int} (hi:i=pre.length):at? ((pre++[v])++List.replicate m z) i=some v:=by
  subst hi;simp[at?]
theorem heat_steps_l (n:Nat) (l:List Cel) (hL:l.length≤1000000000000):∀(rest pre:List Cel) (out:List Wd) (f:Nat) (c:Cel) (last:Option Cel) (i len:Int),l=pre++rest→i=pre.length→len=l.length→rest.length<f→out.length=pre.length→(allE c rest).2=0 →
    CellOk c→(last=none∧c=z0∨∃y,last=some y∧c≠z0∧y.2.2.1=c.2.2.1) →
    heat_Steps_l7 (n+4) f (l,out++List.replicate rest.length (0,0),last,len,i,())=some (.inl (out++stp c rest,())):=by
  intro rest
  induction rest with
  | nil =>
    intro pre out f c last i len hl hi hn hf ho ha hc hlast
    obtain ⟨f,rfl⟩:∃g,f=g+1:=⟨f-1,by simp at hf;omega⟩
    rw[heat_Steps_l7_eq,decide_eq_false (idxe hl hi hn),tff]
    rcases hlast with ⟨rfl,_⟩ | ⟨y,rfl,_⟩
    · rw[oelim_none];simp[stp]
    · rw[oelim_some,tff];simp[stp]
  | cons x rest ih =>
    intro pre out f c last i len hl hi hn hf ho ha hc hlast
    obtain ⟨f,rfl⟩:∃g,f=g+1:=⟨f-1,by simp at hf;omega⟩
    obtain ⟨_,hx,hah,hm,hr⟩:=allE_step ha
    have hcx:=mrg_ok hc hx hah
    have hio:i=out.length:=by omega
    have next:∀(last':Option Cel) (v:Wd),v=mkW (wv (mrg c x).2.2.2.1-wv c.2.2.2.1)→(last'=none∧mrg c x=z0∨∃y,last'=some y∧mrg c x≠z0∧y.2.2.1=(mrg c x).2.2.1) →
        heat_Steps_l7 (n+4) f (l,(out++[v])++List.replicate rest.length (0,0),last',len,i+1,())=some (.inl (out++stp c (x::rest),())):=by
      intro last' v hv hl'
      rw[ih (pre++[x]) (out++[v]) f (mrg c x) last' (i+1) len (idxl hl) (idxs hi) hn (by simp at hf;omega) (by simp;omega) hr hcx hl',hv,List.append_assoc]
      rfl
    rw[heat_Steps_l7_eq,decide_eq_true (idx hl hi hn),at_mid hl hi,idxw hl hi hL]
    simp only[tft,obs,List.length_cons,tfd]
    by_cases hz:x.1=0
    · have hxz:x=z0:=hx.count.1.1 hz
      have key:=next last (0,0) (by rw[hxz,step_z]) (by
        rw[hxz,mrg_z0];exact hlast)
      have e:(out++[((0:Int),(0:Int))])++List.replicate rest.length ((0:Int),(0:Int))=out++List.replicate (rest.length+1) (0,0):=by
        rw[List.append_assoc,List.singleton_append,List.replicate_succ]
      rw[e] at key
      simp only[if_pos hz]
      rcases hlast with ⟨rfl,_⟩ | ⟨y,rfl,_⟩
      · rw[oelim_none];exact key
      · rw[oelim_some];exact key
    · have hxN:CellN x:=hx.n fun e=>hz (by rw[e];rfl)
      simp only[if_neg hz]
      rcases hlast with ⟨rfl,hc0⟩ | ⟨y,rfl,hc0,hy⟩
      · rw[oelim_none,at_pre hio,obs,get_pre hio,obs,set_pre hio]
        exact next (some x) _ (by rw[hc0,step_first hxN]) (.inr ⟨x,rfl,by rw[hc0,z0_mrg];exact hxN.ne,by rw[hc0,z0_mrg]⟩)
      · have hcN:=hc.n hc0
        have hlt:=(hah.resolve_left hc0).resolve_left hxN.ne
        obtain ⟨d1,d2,d3,d4⟩:=step_range hcN hxN hlt
        rw[oelim_some,at_pre hio,obs,get_pre hio,obs,set_pre hio,hy,event_between (n+1) hcN.l hxN.f,if_pos hlt,obs]
        have hadd:wide_Add (n+4) (dcell (btw c.2.2.1 x.2.1)).2.2.2.1 x.2.2.2.1=some (mkW ((btw c.2.2.1 x.2.1).1+wv x.2.2.2.1),0):=by
          show wide_Add (n+2+2) (0,(btw c.2.2.1 x.2.1).1) x.2.2.2.1=_
          rw[wide_add (n+2) (a:=(0,(btw c.2.2.1 x.2.1).1)) ⟨by simp,⟨d1,d2⟩⟩ hxN.w]
          unfold addW
          rw[wv_small,if_pos (by omega)]
        simp only
        rw[hadd,obs,at_two hio,obs,get_two hio,obs,set_two hio]
        exact next (some x) _ (by rw[step_next hcN hxN]) (.inr ⟨x,rfl,(mrg_N hcN hxN hlt).ne,by rw[mrg_n hcN hxN]⟩)
theorem len_test (L:Nat) (k:Nat) (hL:L*k≤140737488355328):((decide ((0:Int)≤(L:Int)))&&((decide ((L:Int)≤(L:Int)))&&(decide (((L:Int)*(k:Int))≤(140737488355328:Int)))))=true:=by
  have h1:(0:Int)≤(L:Int):=by omega
  have h2:((L:Int)*(k:Int))≤140737488355328:=by rw[←Int.natCast_mul];omega
  rw[decide_eq_true h1,decide_eq_true (Int.le_refl _),decide_eq_true h2];rfl
theorem heat_steps (n:Nat) (l:List Cel) (hL:l.length≤1000000) (hw:∀x∈l,CelW x):heat_Steps (n+8) l=some (hstpV l):=by
  rw[heat_Steps_eq,cell_all n l (by omega) hw,obs,tfn,tfd]
  unfold hstpV
  by_cases h:(allE z0 l).2=0
  case neg=>rw[if_neg h,if_neg h]
  rw[if_pos h,if_pos h]
  have t:=len_test l.length 16 (by omega)
  rw[show ((16:Nat):Int)=16 from rfl] at t
  rw[t,tft]
  have:=heat_steps_l (n+3) l (by omega) l [] [] loopFuel z0 none 0 _ rfl rfl rfl (by unfold loopFuel;omega) rfl h ok_z0 (.inl ⟨rfl,rfl⟩)
  rw[List.nil_append,List.nil_append] at this
  rw[Int.toNat_natCast,this,obs,selim_inl]
theorem allE_snoc (x:Cel):∀(l:List Cel) (c:Cel),(allE c l).2=0→allE c (l++[x])=(if (mrgE (allE c l).1 x).2=0 then (mrgE (allE c l).1 x) else (z0,(mrgE (allE c l).1 x).2)):=by
  intro l
  induction l with
  | nil =>
    intro c h
    show (if (mrgE c x).2=0 then ((mrgE c x).1,0) else (z0,(mrgE c x).2))=_
    show _=(if (mrgE c x).2=0 then mrgE c x else (z0,(mrgE c x).2))
    by_cases k:(mrgE c x).2=0
    · rw[if_pos k,if_pos k];exact Prod.ext rfl k.symm
    · rw[if_neg k,if_neg k]
  | cons y l ih =>
    intro c h
    obtain ⟨_,_,_,hm,hr⟩:=allE_step h
    have e:∀r,allE c (y::r)=allE (mrg c y) r:=fun r=>by
      show (if (mrgE c y).2=0 then allE (mrgE c y).1 r else _)=_
      rw[hm,if_pos rfl]
    rw[List.cons_append,e,e,ih _ hr]
theorem r38_steps_l (n:Nat) (l:List Cel) (hL:l.length≤1000000) (hw:∀x∈l,CelW x):∀(rest pre:List Cel) (out:List Wd) (f:Nat) (c:Cel) (i len:Int),l=pre++rest→i=pre.length→len=l.length→rest.length<f→out.length=pre.length→(allE c rest).2=0→allE z0 pre=(c,0) →
    r38_Steps_l6 (n+6) f (l,out,len,i,())=some (.inl (out++stp c rest,())):=by
  intro rest
  induction rest with
  | nil =>
    intro pre out f c i len hl hi hn hf ho ha hp
    obtain ⟨f,rfl⟩:∃g,f=g+1:=⟨f-1,by simp at hf;omega⟩
    rw[r38_Steps_l6_eq,decide_eq_false (idxe hl hi hn),tff];simp[stp]
  | cons x rest ih =>
    intro pre out f c i len hl hi hn hf ho ha hp
    obtain ⟨f,rfl⟩:∃g,f=g+1:=⟨f-1,by simp at hf;omega⟩
    obtain ⟨hc,hx,hah,hm,hr⟩:=allE_step ha
    have hcx:=mrg_ok hc hx hah
    have hlen:=congrArg List.length hl
    simp only[List.length_append,List.length_cons] at hlen
    have hp':allE z0 (pre++[x])=(mrg c x,0):=by
      rw[allE_snoc x pre z0 (by rw[hp]),hp]
      simp only
      rw[hm,if_pos rfl]
    have t1:List.drop 0 (List.take i.toNat l)=pre:=by
      rw[List.drop_zero,hl,hi,Int.toNat_natCast,List.take_left]
    have t2:List.drop 0 (List.take (i+1).toNat l)=pre++[x]:=by
      rw[List.drop_zero,show (i+1).toNat=(pre++[x]).length by simp;omega,idxl hl,List.take_left]
    have hsub:∀y,y∈pre++[x]→CelW y:=fun y hy=>hw y (by rw[idxl hl];exact List.mem_append_left _ hy)
    rw[r38_Steps_l6_eq,decide_eq_true (idx hl hi hn),tft,idxw hl hi (by omega),decide_eq_true (show (0:Int)≤i by omega),decide_eq_true (show i≤(l.length:Int) by omega),decide_eq_true (show (0:Int)≤i+1 by omega),decide_eq_true (show i+1≤(l.length:Int) by omega)]
    simp only[Bool.and_self,tft]
    rw[t1,r08_all n pre (by omega) fun y hy=>hsub y (List.mem_append_left _ hy),obs,t2,r08_all n (pre++[x]) (by simp;omega) hsub,obs,hp,hp']
    simp only
    have hle:wv c.2.2.2.1≤wv (mrg c x).2.2.2.1:=by
      by_cases hc0:c=z0
      · rw[hc0]
        show wv (0,0)≤_
        rw[wv_zero]
        have:=wv_range (CelW.of (by rw[hc0] at hcx;exact hcx:CellOk (mrg z0 x))).w
        exact this.1
      · by_cases hx0:x=z0
        · rw[hx0,mrg_z0];exact Int.le_refl _
        · have hlt:=(hah.resolve_left hc0).resolve_left hx0
          have:=step_next (hc.n hc0) (hx.n hx0)
          have:=step_range (hc.n hc0) (hx.n hx0) hlt
          omega
    obtain ⟨A,hA,eA,vA⟩:=ofN_of (CelW.of hcx).w
    obtain ⟨B,hB,eB,vB⟩:=ofN_of (CelW.of hc).w
    have esub:r01_Sub (n+6) (mrg c x).2.2.2.1 c.2.2.2.1=some (mkW (wv (mrg c x).2.2.2.1-wv c.2.2.2.1),0):=by
      rw[vA,vB] at hle ⊢
      rw[eA,eB,r01_subN (n+3) hA (by omega),show ((A:Int)-(B:Int))=((A-B:Nat):Int) by omega,mkW_nat]
    rw[esub,obs,decide_eq_true (show (out.length+1)*16≤140737488355328 by omega),tft,ih (pre++[x]) _ f (mrg c x) (i+1) len (idxl hl) (idxs hi) hn (by simp at hf;omega) (by simp;omega) hr hp',List.append_assoc]
    rfl
theorem r38_steps (n:Nat) (l:List Cel) (hL:l.length≤1000000) (hw:∀x∈l,CelW x):r38_Steps (n+7) l=some (hstpV l):=by
  rw[r38_Steps_eq,r08_all n l (by omega) hw,obs,tfn,tfd]
  unfold hstpV
  by_cases h:(allE z0 l).2=0
  case neg=>rw[if_neg h,if_neg h]
  rw[if_pos h,if_pos h]
  have:=r38_steps_l n l hL hw l [] [] loopFuel z0 0 _ rfl rfl rfl (by unfold loopFuel;omega) rfl h rfl
  rw[List.nil_append] at this
  rw[this,obs,selim_inl]
def PeakAt (l:List Wd) (i:Nat):Prop:=∃x,l[i]? = some x∧(∀y∈l,wv y≤wv x)∧∀j y,j<i→l[j]? = some y→wv y<wv x
theorem peak_uniq {l:List Wd} {i j:Nat} (h:PeakAt l i) (k:PeakAt l j):i=j:=by
  obtain ⟨x,hx,h1,h2⟩:=h
  obtain ⟨y,hy,k1,k2⟩:=k
  rcases Nat.lt_trichotomy i j with q | q | q
  · have:=k2 i x q hx;have:=h1 y (List.mem_of_getElem? hy);omega
  · exact q
  · have:=h2 j y q hy;have:=k1 x (List.mem_of_getElem? hx);omega
theorem peak_one (x:Wd):PeakAt [x] 0:=⟨x,rfl,fun y hy=>by simp at hy;subst hy;omega,fun j y hj=>by omega⟩
theorem peak_snoc {pre:List Wd} {i:Nat} {x y:Wd} (h:PeakAt pre i) (hy:pre[i]? = some y) :
    (wv y<wv x→PeakAt (pre++[x]) pre.length)∧(¬wv y<wv x→PeakAt (pre++[x]) i):=by
  obtain ⟨z,hz,h1,h2⟩:=h
  have:=Option.some.inj (hz.symm.trans hy)
  subst this
  have hi:i<pre.length:=(List.getElem?_eq_some_iff.1 hz).1
  constructor
  · intro hlt
    refine ⟨x,by simp,fun w hw => ?_,fun j w hj hw => ?_⟩
    · rcases List.mem_append.1 hw with hw | hw
      · have:=h1 w hw;omega
      · simp at hw;subst hw;omega
    · rw[List.getElem?_append_left hj] at hw
      have:=h1 w (List.mem_of_getElem? hw);omega
  · intro hge
    refine ⟨z,by rw[List.getElem?_append_left hi];exact hz,fun w hw => ?_,fun j w hj hw => ?_⟩
    · rcases List.mem_append.1 hw with hw | hw
      · exact h1 w hw
      · simp at hw;subst hw;omega
    · rw[List.getElem?_append_left (by omega)] at hw
      exact h2 j w hj hw
theorem heat_peak_l (n:Nat) (l:List Wd) (hL:l.length≤1000000) (hok:∀x∈l,WdOk x):∀(rest pre:List Wd) (f:Nat) (m:Nat) (i len:Int),l=pre++rest→i=pre.length→len=l.length→rest.length<f→(pre=[]∧m=0∨PeakAt pre m) →
    ∃m':Nat,heat_Peak_l3 (n+1) f (l,(m:Int),l,len,i,())=some (.inl (l,(m':Int),()))∧(l=[]∧m'=0∨PeakAt l m'):=by
  intro rest
  induction rest with
  | nil =>
    intro pre f m i len hl hi hn hf hp
    obtain ⟨f,rfl⟩:∃g,f=g+1:=⟨f-1,by simp at hf;omega⟩
    rw[heat_Peak_l3_eq,decide_eq_false (idxe hl hi hn),tff]
    rw[List.append_nil] at hl
    subst hl
    exact ⟨m,rfl,hp⟩
  | cons x rest ih =>
    intro pre f m i len hl hi hn hf hp
    obtain ⟨f,rfl⟩:∃g,f=g+1:=⟨f-1,by simp at hf;omega⟩
    have hx:WdOk x:=hok x (by rw[hl];simp)
    rw[heat_Peak_l3_eq,decide_eq_true (idx hl hi hn),tft,at_mid hl hi,obs,idxw hl hi (by omega)]
    have next:=fun m' hp'=>ih (pre++[x]) f m' (i+1) len (idxl hl) (idxs hi) hn (by simp at hf;omega) hp'
    rcases hp with ⟨rfl,rfl⟩ | hp
    · have h0:at? l ((0:Nat):Int)=some x:=by rw[hl];rfl
      rw[h0,obs,wide_less n hx hx,obs,decide_eq_false (by omega),tff]
      exact next 0 (.inr (peak_one x))
    · have hp0:=hp
      obtain ⟨y,hy,_,_⟩:=hp0
      have hml:m<pre.length:=(List.getElem?_eq_some_iff.1 hy).1
      have hy':l[m]? = some y:=by rw[hl,List.getElem?_append_left hml];exact hy
      have hyo:WdOk y:=hok y (List.mem_of_getElem? hy')
      have h0:at? l (m:Int)=some y:=by unfold at?;rw[decide_eq_true (by omega)];exact hy'
      obtain ⟨p1,p2⟩:=peak_snoc (x:=x) hp hy
      rw[h0,obs,wide_less n hyo hx,obs,tfd]
      by_cases c:wv y<wv x
      · rw[if_pos c,hi]
        have:=next pre.length (.inr (p1 c))
        rw[hi] at this
        exact this
      · rw[if_neg c];exact next m (.inr (p2 c))
theorem heat_peak_ex (n:Nat) (l:List Wd) (hL:l.length≤1000000) (hok:∀x∈l,WdOk x):l=[]∧heat_Peak (n+2) l=some (0,false)∨∃m:Nat,PeakAt l m∧heat_Peak (n+2) l=some ((m:Int),true):=by
  rw[heat_Peak_eq]
  obtain ⟨m,e,h⟩:=heat_peak_l n l hL hok l [] loopFuel 0 0 _ rfl rfl rfl (by unfold loopFuel;omega) (.inl ⟨rfl,rfl⟩)
  have e':heat_Peak_l3 (n+1) loopFuel (l,(0:Int),l,(l.length:Int),(0:Int),())=some (.inl (l,(m:Int),())):=e
  rw[e',obs,selim_inl]
  rcases h with ⟨rfl,rfl⟩ | h
  · exact .inl ⟨rfl,rfl⟩
  · right
    refine ⟨m,h,?_⟩
    obtain ⟨y,hy,_⟩:=h
    have:=(List.getElem?_eq_some_iff.1 hy).1
    simp only
    rw[decide_eq_true (by omega)]
theorem heat_peak_nil (n:Nat):heat_Peak (n+2) []=some (0,false):=by
  rcases heat_peak_ex n [] (by simp) (by simp) with ⟨_,h⟩ | ⟨m,⟨y,hy,_⟩,_⟩
  · exact h
  · simp at hy
theorem peak_ex (l:List Wd) (hL:l.length≤1000000) (hok:∀x∈l,WdOk x) (hn:l≠[]):∃m,PeakAt l m:=by
  rcases heat_peak_ex 0 l hL hok with ⟨h,_⟩ | ⟨m,h,_⟩
  · exact (hn h).elim
  · exact ⟨m,h⟩
theorem heat_peak (n:Nat) {l:List Wd} {m:Nat} (hL:l.length≤1000000) (hok:∀x∈l,WdOk x) (h:PeakAt l m):heat_Peak (n+2) l=some ((m:Int),true):=by
  rcases heat_peak_ex n l hL hok with ⟨rfl,_⟩ | ⟨k,hk,e⟩
  · obtain ⟨y,hy,_⟩:=h;simp at hy
  · rw[e,peak_uniq hk h]
theorem r38_peak_l6 (n:Nat) (l0 l:List Wd) (hL:l.length≤1000000) (hok:∀x∈l,WdOk x) (x:Wd) (hx:WdOk x) (i0:Int) (s9:List Wd) (s10 s11:Int):∀(rest pre:List Wd) (f:Nat) (ok:Bool) (i len:Int),l=pre++rest→i=pre.length→len=l.length→rest.length<f →
    r38_Peak_l6 (n+2) f (l0,i0,x,ok,s9,s10,s11,l,len,i,())=some (.inl (l0,i0,ok&&decide (∀y∈rest,wv y≤wv x),s9,s10,s11,())):=by
  intro rest
  induction rest with
  | nil =>
    intro pre f ok i len hl hi hn hf
    obtain ⟨f,rfl⟩:∃g,f=g+1:=⟨f-1,by simp at hf;omega⟩
    rw[r38_Peak_l6_eq,decide_eq_false (idxe hl hi hn),tff]
    simp
  | cons y rest ih =>
    intro pre f ok i len hl hi hn hf
    obtain ⟨f,rfl⟩:∃g,f=g+1:=⟨f-1,by simp at hf;omega⟩
    have hy:WdOk y:=hok y (by rw[hl];simp)
    have next:=fun ok'=>ih (pre++[y]) f ok' (i+1) len (idxl hl) (idxs hi) hn (by simp at hf;omega)
    rw[r38_Peak_l6_eq,decide_eq_true (idx hl hi hn),tft,at_mid hl hi,obs,idxw hl hi (by omega)]
    cases ok with
    | false=>rw[tff,next false];rfl
    | true =>
      rw[tft,r01_less n hx hy,obs,next]
      have e:(!decide (wv x<wv y)&&decide (∀z∈rest,wv z≤wv x))=(true&&decide (∀z∈y::rest,wv z≤wv x)):=by
        rw[Bool.true_and,←decide_not,←Bool.decide_and]
        apply decide_eq_decide.2
        simp only[List.mem_cons,forall_eq_or_imp]
        constructor
        · rintro ⟨h1,h2⟩;exact ⟨by omega,h2⟩
        · rintro ⟨h1,h2⟩;exact ⟨by omega,h2⟩
      rw[e]
theorem r38_peak_l2 (n:Nat) {l:List Wd} {m:Nat} (hL:l.length≤1000000) (hok:∀x∈l,WdOk x) (h:PeakAt l m):∀(d i f:Nat),i+d=m→d<f →
    r38_Peak_l2 (n+2) f (l,l,(l.length:Int),(i:Int),())=some (.inr ((m:Int),true)):=by
  obtain ⟨x,hx,h1,h2⟩:=h
  have hm:m<l.length:=(List.getElem?_eq_some_iff.1 hx).1
  intro d
  induction d with
  | zero =>
    intro i f hi hf
    obtain ⟨f,rfl⟩:∃g,f=g+1:=⟨f-1,by omega⟩
    obtain rfl:i=m:=by omega
    have h0:at? l (i:Int)=some x:=by unfold at?;rw[decide_eq_true (by omega)];exact hx
    rw[r38_Peak_l2_eq,decide_eq_true (by omega),tft,h0,obs,r38_peak_l6 n l l hL hok x (hok x (List.mem_of_getElem? hx)) (i:Int) l _ _ l [] loopFuel true 0 _ rfl rfl rfl (by unfold loopFuel;omega),obs,selim_inl]
    simp only[Bool.true_and]
    rw[decide_eq_true h1,tft]
  | succ d ih =>
    intro i f hi hf
    obtain ⟨f,rfl⟩:∃g,f=g+1:=⟨f-1,by omega⟩
    obtain ⟨y,hy⟩:∃y,l[i]? = some y:=⟨l[i],List.getElem?_eq_getElem (by omega)⟩
    have h0:at? l (i:Int)=some y:=by unfold at?;rw[decide_eq_true (by omega)];exact hy
    have hlt:=h2 i y (by omega) hy
    rw[r38_Peak_l2_eq,decide_eq_true (by omega),tft,h0,obs,r38_peak_l6 n l l hL hok y (hok y (List.mem_of_getElem? hy)) (i:Int) l _ _ l [] loopFuel true 0 _ rfl rfl rfl (by unfold loopFuel;omega),obs,selim_inl]
    simp only[Bool.true_and]
    rw[decide_eq_false (fun k=>by have:=k x (List.mem_of_getElem? hx);omega),tff,w64 (by omega) (by omega),show ((i:Int)+1)=((i+1:Nat):Int) by omega]
    exact ih (i+1) f (by omega) (by omega)
theorem r38_peak (n:Nat) {l:List Wd} {m:Nat} (hL:l.length≤1000000) (hok:∀x∈l,WdOk x) (h:PeakAt l m):r38_Peak (n+3) l=some ((m:Int),true):=by
  have hm:m<l.length:=by obtain ⟨x,hx,_⟩:=h;exact (List.getElem?_eq_some_iff.1 hx).1
  have:=r38_peak_l2 n hL hok h m 0 loopFuel (by omega) (by unfold loopFuel;omega)
  have e:r38_Peak_l2 (n+2) loopFuel (l,l,(l.length:Int),(0:Int),())=some (.inr ((m:Int),true)):=this
  rw[r38_Peak_eq,e,obs,selim_inr]
theorem r38_peak_nil (n:Nat):r38_Peak (n+3) []=some (0,false):=by
  rw[r38_Peak_eq,show loopFuel=(2^70-1)+1 from rfl,r38_Peak_l2_eq]
  rfl
def lvl (t a:Int):Int:=if t=0 then 0 else a*9 / t
theorem lvl_range {t a:Int} (h0:0≤a) (h1:a≤t):0≤lvl t a∧lvl t a≤9:=by
  unfold lvl
  by_cases h:t=0
  · rw[if_pos h];omega
  · rw[if_neg h]
    have ht:0<t:=by omega
    refine ⟨Int.ediv_nonneg (by omega) (by omega),?_⟩
    have:a*9 / t<10:=Int.ediv_lt_of_lt_mul ht (by omega)
    omega
def levT (top:Wd) (l:List Wd):List Int×Int:=if wv top*9<340282366920938463463374607431768211456 then (l.map fun x=>lvl (wv top) (wv x),0) else ([],1)
def tkf (t:Int) (k j:Nat):Wd:=if j<k then mkW (t*(j:Int)) else (0,0)
def tk (t:Int) (k:Nat):Wd×Wd×Wd×Wd×Wd×Wd×Wd×Wd×Wd×Wd :=
  (tkf t k 0,tkf t k 1,tkf t k 2,tkf t k 3,tkf t k 4,tkf t k 5,tkf t k 6,tkf t k 7,tkf t k 8,tkf t k 9)
def stk:Nat→(Wd×Wd×Wd×Wd×Wd×Wd×Wd×Wd×Wd×Wd)→Wd→(Wd×Wd×Wd×Wd×Wd×Wd×Wd×Wd×Wd×Wd)
  | 0,t,v=>(v,t.2)
  | 1,t,v=>(t.1,(v,t.2.2))
  | 2,t,v=>(t.1,(t.2.1,(v,t.2.2.2)))
  | 3,t,v=>(t.1,(t.2.1,(t.2.2.1,(v,t.2.2.2.2))))
  | 4,t,v=>(t.1,(t.2.1,(t.2.2.1,(t.2.2.2.1,(v,t.2.2.2.2.2)))))
  | 5,t,v=>(t.1,(t.2.1,(t.2.2.1,(t.2.2.2.1,(t.2.2.2.2.1,(v,t.2.2.2.2.2.2))))))
  | 6,t,v=>(t.1,(t.2.1,(t.2.2.1,(t.2.2.2.1,(t.2.2.2.2.1,(t.2.2.2.2.2.1,(v,t.2.2.2.2.2.2.2)))))))
  | 7,t,v=>(t.1,(t.2.1,(t.2.2.1,(t.2.2.2.1,(t.2.2.2.2.1,(t.2.2.2.2.2.1,(t.2.2.2.2.2.2.1,(v,t.2.2.2.2.2.2.2.2))))))))
  | 8,t,v=>(t.1,(t.2.1,(t.2.2.1,(t.2.2.2.1,(t.2.2.2.2.1,(t.2.2.2.2.2.1,(t.2.2.2.2.2.2.1,(t.2.2.2.2.2.2.2.1,(v,t.2.2.2.2.2.2.2.2.2)))))))))
  | _,t,v=>(t.1,(t.2.1,(t.2.2.1,(t.2.2.2.1,(t.2.2.2.2.1,(t.2.2.2.2.2.1,(t.2.2.2.2.2.2.1,(t.2.2.2.2.2.2.2.1,(t.2.2.2.2.2.2.2.2.1,v)))))))))
theorem stk_tk (t:Int) {k:Nat} (hk:k<10):stk k (tk t k) (mkW (t*(k:Int)))=tk t (k+1):=by
  rcases (by omega:k=0∨k=1∨k=2∨k=3∨k=4∨k=5∨k=6∨k=7∨k=8∨k=9) with e | e | e | e | e | e | e | e | e | e<;>subst e<;>simp[stk,tk,tkf]
theorem lev_step (n f:Nat) {l:List Wd} {m:Nat} {top:Wd} (hm:at? l (m:Int)=some top) (hok:WdOk top) (k:Nat) (hk:k<10):heat_Levels_l6 (n+2) (f+1) (l,(m:Int),tk (wv top) k,(k:Int),()) =
    if wv top*(k:Int)<340282366920938463463374607431768211456 then heat_Levels_l6 (n+2) f (l,(m:Int),tk (wv top) (k+1),((k+1:Nat):Int),()) else some (.inr ([],1)):=by
  rw[heat_Levels_l6_eq,decide_eq_true (by omega),tft,hm,obs,wu64 (by omega) (by omega),wide_times n hok (k:Int) (by omega),obs]
  unfold timesW
  by_cases h:wv top*(k:Int)<340282366920938463463374607431768211456
  · rw[if_pos h,if_pos h]
    refine Eq.trans (b:=heat_Levels_l6 (n+2) f (l,(m:Int),stk k (tk (wv top) k) (mkW (wv top*(k:Int))),IntKind.wrap .i64 ((k:Int)+1),())) ?_ (by rw[stk_tk _ hk,w64 (by omega) (by omega)];rfl)
    simp only[decide_true,Bool.not_true,tff]
    rcases (by omega:k=0∨k=1∨k=2∨k=3∨k=4∨k=5∨k=6∨k=7∨k=8∨k=9) with e | e | e | e | e | e | e | e | e | e<;>subst e
    · rw[decide_eq_true (show (((0:Nat):Int)=(0:Int)) from rfl),tft];rfl
    · rw[decide_eq_false (show ¬(((1:Nat):Int)=(0:Int)) by decide),tff,decide_eq_true (show (((1:Nat):Int)=(1:Int)) from rfl),tft];rfl
    · rw[decide_eq_false (show ¬(((2:Nat):Int)=(0:Int)) by decide),tff,decide_eq_false (show ¬(((2:Nat):Int)=(1:Int)) by decide),tff,decide_eq_true (show (((2:Nat):Int)=(2:Int)) from rfl),tft];rfl
    · rw[decide_eq_false (show ¬(((3:Nat):Int)=(0:Int)) by decide),tff,decide_eq_false (show ¬(((3:Nat):Int)=(1:Int)) by decide),tff,decide_eq_false (show ¬(((3:Nat):Int)=(2:Int)) by decide),tff,decide_eq_true (show (((3:Nat):Int)=(3:Int)) from rfl),tft];rfl
    · rw[decide_eq_false (show ¬(((4:Nat):Int)=(0:Int)) by decide),tff,decide_eq_false (show ¬(((4:Nat):Int)=(1:Int)) by decide),tff,decide_eq_false (show ¬(((4:Nat):Int)=(2:Int)) by decide),tff,decide_eq_false (show ¬(((4:Nat):Int)=(3:Int)) by decide),tff,decide_eq_true (show (((4:Nat):Int)=(4:Int)) from rfl),tft];rfl
    · rw[decide_eq_false (show ¬(((5:Nat):Int)=(0:Int)) by decide),tff,decide_eq_false (show ¬(((5:Nat):Int)=(1:Int)) by decide),tff,decide_eq_false (show ¬(((5:Nat):Int)=(2:Int)) by decide),tff,decide_eq_false (show ¬(((5:Nat):Int)=(3:Int)) by decide),tff,decide_eq_false (show ¬(((5:Nat):Int)=(4:Int)) by decide),tff,decide_eq_true (show (((5:Nat):Int)=(5:Int)) from rfl),tft];rfl
    · rw[decide_eq_false (show ¬(((6:Nat):Int)=(0:Int)) by decide),tff,decide_eq_false (show ¬(((6:Nat):Int)=(1:Int)) by decide),tff,decide_eq_false (show ¬(((6:Nat):Int)=(2:Int)) by decide),tff,decide_eq_false (show ¬(((6:Nat):Int)=(3:Int)) by decide),tff,decide_eq_false (show ¬(((6:Nat):Int)=(4:Int)) by decide),tff,decide_eq_false (show ¬(((6:Nat):Int)=(5:Int)) by decide),tff,decide_eq_true (show (((6:Nat):Int)=(6:Int)) from rfl),tft];rfl
    · rw[decide_eq_false (show ¬(((7:Nat):Int)=(0:Int)) by decide),tff,decide_eq_false (show ¬(((7:Nat):Int)=(1:Int)) by decide),tff,decide_eq_false (show ¬(((7:Nat):Int)=(2:Int)) by decide),tff,decide_eq_false (show ¬(((7:Nat):Int)=(3:Int)) by decide),tff,decide_eq_false (show ¬(((7:Nat):Int)=(4:Int)) by decide),tff,decide_eq_false (show ¬(((7:Nat):Int)=(5:Int)) by decide),tff,decide_eq_false (show ¬(((7:Nat):Int)=(6:Int)) by decide),tff,decide_eq_true (show (((7:Nat):Int)=(7:Int)) from rfl),tft];rfl
    · rw[decide_eq_false (show ¬(((8:Nat):Int)=(0:Int)) by decide),tff,decide_eq_false (show ¬(((8:Nat):Int)=(1:Int)) by decide),tff,decide_eq_false (show ¬(((8:Nat):Int)=(2:Int)) by decide),tff,decide_eq_false (show ¬(((8:Nat):Int)=(3:Int)) by decide),tff,decide_eq_false (show ¬(((8:Nat):Int)=(4:Int)) by decide),tff,decide_eq_false (show ¬(((8:Nat):Int)=(5:Int)) by decide),tff,decide_eq_false (show ¬(((8:Nat):Int)=(6:Int)) by decide),tff,decide_eq_false (show ¬(((8:Nat):Int)=(7:Int)) by decide),tff,decide_eq_true (show (((8:Nat):Int)=(8:Int)) from rfl),tft];rfl
    · rw[decide_eq_false (show ¬(((9:Nat):Int)=(0:Int)) by decide),tff,decide_eq_false (show ¬(((9:Nat):Int)=(1:Int)) by decide),tff,decide_eq_false (show ¬(((9:Nat):Int)=(2:Int)) by decide),tff,decide_eq_false (show ¬(((9:Nat):Int)=(3:Int)) by decide),tff,decide_eq_false (show ¬(((9:Nat):Int)=(4:Int)) by decide),tff,decide_eq_false (show ¬(((9:Nat):Int)=(5:Int)) by decide),tff,decide_eq_false (show ¬(((9:Nat):Int)=(6:Int)) by decide),tff,decide_eq_false (show ¬(((9:Nat):Int)=(7:Int)) by decide),tff,decide_eq_false (show ¬(((9:Nat):Int)=(8:Int)) by decide),tff,decide_eq_true (show (((9:Nat):Int)=(9:Int)) from rfl),tft];rfl
  · rw[if_neg h,if_neg h]
    rcases (by omega:k=0∨k=1∨k=2∨k=3∨k=4∨k=5∨k=6∨k=7∨k=8∨k=9) with e | e | e | e | e | e | e | e | e | e<;>subst e<;>rfl
theorem lev_l6 (n:Nat) {l:List Wd} {m:Nat} {top:Wd} (hm:at? l (m:Int)=some top) (hok:WdOk top):∀(d k f:Nat),k+d=9→d+1<f →
    heat_Levels_l6 (n+2) f (l,(m:Int),tk (wv top) k,(k:Int),())=some (if wv top*9<340282366920938463463374607431768211456 then .inl (l,(m:Int),tk (wv top) 10,()) else .inr ([],1)):=by
  have hr:=wv_range hok
  intro d
  induction d with
  | zero =>
    intro k f hk hf
    obtain ⟨f,rfl⟩:∃g,f=g+1:=⟨f-1,by omega⟩
    obtain rfl:k=9:=by omega
    rw[lev_step n f hm hok 9 (by omega)]
    by_cases h:wv top*9<340282366920938463463374607431768211456
    · obtain ⟨f,rfl⟩:∃g,f=g+1:=⟨f-1,by omega⟩
      rw[if_pos (show wv top*((9:Nat):Int)<_ from h),if_pos h,heat_Levels_l6_eq,decide_eq_false (by omega),tff]
    · rw[if_neg (show ¬wv top*((9:Nat):Int)<_ from h),if_neg h]
  | succ d ih =>
    intro k f hk hf
    obtain ⟨f,rfl⟩:∃g,f=g+1:=⟨f-1,by omega⟩
    rw[lev_step n f hm hok k (by omega)]
    by_cases h:wv top*(k:Int)<340282366920938463463374607431768211456
    · rw[if_pos h,ih (k+1) f (by omega) (by omega)]
    · rw[if_neg h,if_neg]
      have:wv top*(k:Int)≤wv top*9:=Int.mul_le_mul_of_nonneg_left (by omega) hr.1
      omega
theorem tkf10 (t:Int) {j:Nat} (h:j<10):tkf t 10 j=mkW (t*(j:Int)):=if_pos h
theorem level_step (n f:Nat) {t a:Int} (ht:0≤t) (h9:t*9<340282366920938463463374607431768211456) (ha:0≤a∧a<340282366920938463463374607431768211456) (k:Nat) (hk:k<9) :
    heat_level_l3 (n+1) (f+1) (tk t 10,mkW a,(k:Int),())=if a<t*((k+1:Nat):Int) then some (.inl ((k:Int),())) else heat_level_l3 (n+1) f (tk t 10,mkW a,((k+1:Nat):Int),()):=by
  have hl:∀j:Nat,j<10→wide_Less (n+1) (mkW a) (tkf t 10 j)=some (decide (a<t*(j:Int))):=by
    intro j hj
    have h1:t*(j:Int)≤t*9:=Int.mul_le_mul_of_nonneg_left (by omega) ht
    have h2:0≤t*(j:Int):=Int.mul_nonneg ht (by omega)
    rw[tkf10 t hj,wide_less n (mkW_ok ha.1 ha.2) (mkW_ok h2 (by omega)),wv_mkW,wv_mkW]
  have hj:=hl (k+1) (by omega)
  rw[heat_level_l3_eq,decide_eq_true (by omega),tft]
  have key:∀(X Y:Option ((Int×Unit) ⊕ Int)),(obind (wide_Less (n+1) (mkW a) (tkf t 10 (k+1))) fun r=>tif (!r) X Y)=if a<t*((k+1:Nat):Int) then Y else X:=by
    intro X Y
    rw[hj,obs,tfn,tfd]
  rw[←key,show IntKind.wrap .i64 ((k:Int)+1)=((k+1:Nat):Int) from w64 (by omega) (by omega)]
  rcases (by omega:k=0∨k=1∨k=2∨k=3∨k=4∨k=5∨k=6∨k=7∨k=8) with e | e | e | e | e | e | e | e | e<;>subst e
  · rw[decide_eq_false (show ¬(((0+1:Nat):Int)=(0:Int)) by decide),tff,decide_eq_true (show (((0+1:Nat):Int)=(1:Int)) from rfl),tft];rfl
  · rw[decide_eq_false (show ¬(((1+1:Nat):Int)=(0:Int)) by decide),tff,decide_eq_false (show ¬(((1+1:Nat):Int)=(1:Int)) by decide),tff,decide_eq_true (show (((1+1:Nat):Int)=(2:Int)) from rfl),tft];rfl
  · rw[decide_eq_false (show ¬(((2+1:Nat):Int)=(0:Int)) by decide),tff,decide_eq_false (show ¬(((2+1:Nat):Int)=(1:Int)) by decide),tff,decide_eq_false (show ¬(((2+1:Nat):Int)=(2:Int)) by decide),tff,decide_eq_true (show (((2+1:Nat):Int)=(3:Int)) from rfl),tft];rfl
  · rw[decide_eq_false (show ¬(((3+1:Nat):Int)=(0:Int)) by decide),tff,decide_eq_false (show ¬(((3+1:Nat):Int)=(1:Int)) by decide),tff,decide_eq_false (show ¬(((3+1:Nat):Int)=(2:Int)) by decide),tff,decide_eq_false (show ¬(((3+1:Nat):Int)=(3:Int)) by decide),tff,decide_eq_true (show (((3+1:Nat):Int)=(4:Int)) from rfl),tft];rfl
  · rw[decide_eq_false (show ¬(((4+1:Nat):Int)=(0:Int)) by decide),tff,decide_eq_false (show ¬(((4+1:Nat):Int)=(1:Int)) by decide),tff,decide_eq_false (show ¬(((4+1:Nat):Int)=(2:Int)) by decide),tff,decide_eq_false (show ¬(((4+1:Nat):Int)=(3:Int)) by decide),tff,decide_eq_false (show ¬(((4+1:Nat):Int)=(4:Int)) by decide),tff,decide_eq_true (show (((4+1:Nat):Int)=(5:Int)) from rfl),tft];rfl
  · rw[decide_eq_false (show ¬(((5+1:Nat):Int)=(0:Int)) by decide),tff,decide_eq_false (show ¬(((5+1:Nat):Int)=(1:Int)) by decide),tff,decide_eq_false (show ¬(((5+1:Nat):Int)=(2:Int)) by decide),tff,decide_eq_false (show ¬(((5+1:Nat):Int)=(3:Int)) by decide),tff,decide_eq_false (show ¬(((5+1:Nat):Int)=(4:Int)) by decide),tff,decide_eq_false (show ¬(((5+1:Nat):Int)=(5:Int)) by decide),tff,decide_eq_true (show (((5+1:Nat):Int)=(6:Int)) from rfl),tft];rfl
  · rw[decide_eq_false (show ¬(((6+1:Nat):Int)=(0:Int)) by decide),tff,decide_eq_false (show ¬(((6+1:Nat):Int)=(1:Int)) by decide),tff,decide_eq_false (show ¬(((6+1:Nat):Int)=(2:Int)) by decide),tff,decide_eq_false (show ¬(((6+1:Nat):Int)=(3:Int)) by decide),tff,decide_eq_false (show ¬(((6+1:Nat):Int)=(4:Int)) by decide),tff,decide_eq_false (show ¬(((6+1:Nat):Int)=(5:Int)) by decide),tff,decide_eq_false (show ¬(((6+1:Nat):Int)=(6:Int)) by decide),tff,decide_eq_true (show (((6+1:Nat):Int)=(7:Int)) from rfl),tft];rfl
  · rw[decide_eq_false (show ¬(((7+1:Nat):Int)=(0:Int)) by decide),tff,decide_eq_false (show ¬(((7+1:Nat):Int)=(1:Int)) by decide),tff,decide_eq_false (show ¬(((7+1:Nat):Int)=(2:Int)) by decide),tff,decide_eq_false (show ¬(((7+1:Nat):Int)=(3:Int)) by decide),tff,decide_eq_false (show ¬(((7+1:Nat):Int)=(4:Int)) by decide),tff,decide_eq_false (show ¬(((7+1:Nat):Int)=(5:Int)) by decide),tff,decide_eq_false (show ¬(((7+1:Nat):Int)=(6:Int)) by decide),tff,decide_eq_false (show ¬(((7+1:Nat):Int)=(7:Int)) by decide),tff,decide_eq_true (show (((7+1:Nat):Int)=(8:Int)) from rfl),tft];rfl
  · rw[decide_eq_false (show ¬(((8+1:Nat):Int)=(0:Int)) by decide),tff,decide_eq_false (show ¬(((8+1:Nat):Int)=(1:Int)) by decide),tff,decide_eq_false (show ¬(((8+1:Nat):Int)=(2:Int)) by decide),tff,decide_eq_false (show ¬(((8+1:Nat):Int)=(3:Int)) by decide),tff,decide_eq_false (show ¬(((8+1:Nat):Int)=(4:Int)) by decide),tff,decide_eq_false (show ¬(((8+1:Nat):Int)=(5:Int)) by decide),tff,decide_eq_false (show ¬(((8+1:Nat):Int)=(6:Int)) by decide),tff,decide_eq_false (show ¬(((8+1:Nat):Int)=(7:Int)) by decide),tff,decide_eq_false (show ¬(((8+1:Nat):Int)=(8:Int)) by decide),tff,decide_eq_true (show (((8+1:Nat):Int)=(9:Int)) from rfl),tft];rfl
theorem level_l3 (n:Nat) {t a q:Int} (ht:0<t) (h9:t*9<340282366920938463463374607431768211456) (ha:0≤a∧a<340282366920938463463374607431768211456) (hq:q=a / t) (hq9:q≤9):∀(d k f:Nat),(k:Int)+d=q→d<f →
    heat_level_l3 (n+1) f (tk t 10,mkW a,(k:Int),())=some (.inl (q,())):=by
  have hle:∀j:Int,j≤q↔t*j≤a:=fun j=>by rw[hq,Int.le_ediv_iff_mul_le ht,Int.mul_comm]
  intro d
  induction d with
  | zero =>
    intro k f hk hf
    obtain ⟨f,rfl⟩:∃g,f=g+1:=⟨f-1,by omega⟩
    by_cases h:k<9
    · rw[level_step n f (by omega) h9 ha k h,if_pos]
      · congr 3<;>omega
      · have:=hle ((k+1:Nat):Int);omega
    · rw[heat_level_l3_eq,decide_eq_false (by omega),tff]
      congr 3<;>omega
  | succ d ih =>
    intro k f hk hf
    obtain ⟨f,rfl⟩:∃g,f=g+1:=⟨f-1,by omega⟩
    rw[level_step n f (by omega) h9 ha k (by omega),if_neg]
    · exact ih (k+1) f (by omega) (by omega)
    · have:=(hle ((k+1:Nat):Int)).1 (by omega);omega
theorem heat_level_val (n:Nat) {t:Int} {x:Wd} (hx:WdOk x) (ht:0<t) (h9:t*9<340282366920938463463374607431768211456) (hle:wv x≤t):heat_level (n+3) x (tk t 10)=some (lvl t (wv x)):=by
  have hr:=wv_range hx
  have hl:=lvl_range hr.1 hle
  rw[heat_level_eq,wide_times n hx 9 (by omega),obs]
  unfold timesW
  rw[if_pos (by omega)]
  have e:lvl t (wv x)=wv x*9 / t:=by unfold lvl;rw[if_neg (by omega)]
  have:=level_l3 (n+1) ht h9 (a:=wv x*9) (by omega) e hl.2 (lvl t (wv x)).toNat 0 loopFuel (by omega) (by unfold loopFuel;omega)
  have e2:heat_level_l3 (n+2) loopFuel (tk t 10,mkW (wv x*9),(0:Int),())=some (.inl (lvl t (wv x),())):=this
  simp only
  rw[e2,obs,selim_inl]
theorem lev_l17 (n:Nat) {t:Int} (ht:0<t) (h9:t*9<340282366920938463463374607431768211456) (l:List Wd) (hL:l.length≤1000000) (hok:∀x∈l,WdOk x∧wv x≤t):∀(rest pre:List Wd) (out:List Int) (f:Nat) (i len:Int),l=pre++rest→i=pre.length→len=l.length→rest.length<f→out.length=pre.length →
    heat_Levels_l17 (n+3) f (tk t 10,out++List.replicate rest.length (0:Int),l,len,i,())=some (.inl (out++rest.map fun x=>lvl t (wv x),())):=by
  intro rest
  induction rest with
  | nil =>
    intro pre out f i len hl hi hn hf ho
    obtain ⟨f,rfl⟩:∃g,f=g+1:=⟨f-1,by simp at hf;omega⟩
    rw[heat_Levels_l17_eq,decide_eq_false (idxe hl hi hn),tff];simp
  | cons x rest ih =>
    intro pre out f i len hl hi hn hf ho
    obtain ⟨f,rfl⟩:∃g,f=g+1:=⟨f-1,by simp at hf;omega⟩
    have hio:i=out.length:=by omega
    have hx:=hok x (by rw[hl];simp)
    rw[heat_Levels_l17_eq,decide_eq_true (idx hl hi hn),tft,at_mid hl hi,obs,heat_level_val n hx.1 ht h9 hx.2,obs,List.length_cons,at_pre hio,obs,get_pre hio,obs,set_pre hio,idxw hl hi (by omega),ih (pre++[x]) (out++[_]) f (i+1) len (idxl hl) (idxs hi) hn (by simp at hf;omega) (by simp;omega),List.append_assoc]
    rfl
theorem zero_tests {top:Wd} (h:WdOk top):((decide (top.1=(0:Int)))&&(decide (top.2=(0:Int))))=decide (wv top=0):=by
  obtain ⟨h1,h2⟩:=h
  rw[←Bool.decide_and]
  apply decide_eq_decide.2
  unfold wv
  constructor
  · rintro ⟨a,b⟩;rw[a,b];rfl
  · intro e;constructor<;>omega
theorem heat_levels (n:Nat) {l:List Wd} {m:Nat} {top:Wd} (hL:l.length≤1000000) (hok:∀x∈l,WdOk x) (h:PeakAt l m) (hm:l[m]? = some top):heat_Levels (n+5) l=some (levT top l):=by
  have hat:at? l (m:Int)=some top:=by unfold at?;rw[decide_eq_true (by omega)];exact hm
  have hto:WdOk top:=hok top (List.mem_of_getElem? hm)
  have hr:=wv_range hto
  obtain ⟨z,hz,hmax,_⟩:=h
  have:=Option.some.inj (hz.symm.trans hm)
  subst this
  rw[heat_Levels_eq,heat_peak (n+2) hL hok ⟨z,hz,hmax,by assumption⟩,obs,Bool.not_true,tff]
  have e:heat_Levels_l6 (n+4) loopFuel (l,(m:Int),tk (wv z) 0,(0:Int),())=_:=lev_l6 (n+2) hat hto 9 0 loopFuel (by omega) (by unfold loopFuel;omega)
  change obind (heat_Levels_l6 (n+4) loopFuel (l,(m:Int),tk (wv z) 0,(0:Int),())) _=_
  rw[e,obs]
  unfold levT
  by_cases h9:wv z*9<340282366920938463463374607431768211456
  case neg=>rw[if_neg h9,if_neg h9,selim_inr]
  rw[if_pos h9,if_pos h9,selim_inl]
  have t:=len_test l.length 8 (by omega)
  rw[show ((8:Nat):Int)=8 from rfl] at t
  simp only
  rw[t,tft,hat,obs,wide_of,obs]
  simp only
  rw[zero_tests hto,tfd,Int.toNat_natCast]
  by_cases h0:wv z=0
  · rw[if_pos h0]
    have e3:(l.map fun x=>lvl (wv z) (wv x))=List.replicate l.length 0:=by
      refine List.eq_replicate_iff.2 ⟨by simp,fun b hb => ?_⟩
      obtain ⟨x,_,rfl⟩:=List.mem_map.1 hb
      unfold lvl;rw[if_pos h0]
    rw[e3]
  · rw[if_neg h0]
    have:=lev_l17 (n+1) (t:=wv z) (by omega) h9 l hL (fun x hx=>⟨hok x hx,hmax x hx⟩) l [] [] loopFuel 0 _ rfl rfl rfl (by unfold loopFuel;omega) rfl
    rw[List.nil_append,List.nil_append] at this
    rw[this,obs,selim_inl]
theorem heat_levels_nil (n:Nat):heat_Levels (n+5) []=some ([],0):=by
  rw[heat_Levels_eq,heat_peak_nil (n+2)];rfl
theorem r38_lev_l15 (n:Nat) {top:Wd} (hto:WdOk top) (h9:wv top*9<340282366920938463463374607431768211456) (ht:0<wv top) {a:Int} (ha:0≤a∧a<340282366920938463463374607431768211456) {q:Int} (hq:q=a / wv top) (hq9:q≤9) (out:List Int) (s37:List Wd) (s38 s39:Int):∀(d k f:Nat),k+d=10→d<f →
    1≤k→r38_Levels_l15 (n+3) f (top,out,mkW a,(if (k:Int)-1≤q then (k:Int)-1 else q),(k:Int),s37,s38,s39,())=some (.inl (top,out,q,s37,s38,s39,())):=by
  have hle:∀j:Int,j≤q↔wv top*j≤a:=fun j=>by rw[hq,Int.le_ediv_iff_mul_le ht,Int.mul_comm]
  have hq0:0≤q:=(hle 0).2 (by omega)
  intro d
  induction d with
  | zero =>
    intro k f hk hf h1
    obtain ⟨f,rfl⟩:∃g,f=g+1:=⟨f-1,by omega⟩
    rw[r38_Levels_l15_eq,decide_eq_false (by omega),tff]
    congr 5
    split<;>omega
  | succ d ih =>
    intro k f hk hf h1
    obtain ⟨f,rfl⟩:∃g,f=g+1:=⟨f-1,by omega⟩
    have hk9:wv top*(k:Int)≤wv top*9:=Int.mul_le_mul_of_nonneg_left (by omega) (by omega)
    have hk0:0≤wv top*(k:Int):=Int.mul_nonneg (by omega) (by omega)
    rw[r38_Levels_l15_eq,decide_eq_true (by omega),tft,zero_tests hto,decide_eq_false (by omega),Bool.not_false,tft,r01_times n hto (k:Int) (by omega),obs]
    unfold timesW
    rw[if_pos (by omega)]
    simp only
    rw[r01_less (n+1) (mkW_ok ha.1 ha.2) (mkW_ok hk0 (by omega)),obs,wv_mkW,wv_mkW,tfn,tfd,wu64 (x:=(k:Int)+1) (by omega) (by omega),w64 (by omega) (by omega)]
    have next:=ih (k+1) f (by omega) (by omega) (by omega)
    rw[show ((k+1:Nat):Int)-1=(k:Int) by omega,show ((k+1:Nat):Int)=(k:Int)+1 by omega] at next
    by_cases c:a<wv top*(k:Int)
    · have hlt:¬((k:Int)≤q):=fun h=>by have:=(hle k).1 h;omega
      rw[if_neg hlt] at next
      rw[if_pos c]
      have e:(if (k:Int)-1≤q then (k:Int)-1 else q)=q:=by split<;>omega
      rw[e];exact next
    · have hlt:(k:Int)≤q:=(hle k).2 (by omega)
      rw[if_pos hlt] at next
      rw[if_neg c];exact next
theorem r38_lev_l15_0 (n f:Nat) {top:Wd} (hto:WdOk top) (ht:wv top=0) (nine:Wd) (out:List Int) (s37:List Wd) (s38 s39:Int) :
    r38_Levels_l15 (n+3) (f+1) (top,out,nine,(0:Int),(1:Int),s37,s38,s39,())=some (.inl (top,out,0,s37,s38,s39,())):=by
  rw[r38_Levels_l15_eq,decide_eq_true (by omega),tft,zero_tests hto,decide_eq_true ht,Bool.not_true,tff]
theorem r38_lev_l10 (n:Nat) {top:Wd} (hto:WdOk top) (h9:wv top*9<340282366920938463463374607431768211456) (l:List Wd) (hL:l.length≤1000000) (hok:∀x∈l,WdOk x∧wv x≤wv top):∀(rest pre:List Wd) (out:List Int) (f:Nat) (i len:Int),l=pre++rest→i=pre.length→len=l.length→rest.length<f→out.length=pre.length →
    r38_Levels_l10 (n+3) f (top,out,l,len,i,())=some (.inl (out++rest.map fun x=>lvl (wv top) (wv x),())):=by
  have hr:=wv_range hto
  intro rest
  induction rest with
  | nil =>
    intro pre out f i len hl hi hn hf ho
    obtain ⟨f,rfl⟩:∃g,f=g+1:=⟨f-1,by simp at hf;omega⟩
    rw[r38_Levels_l10_eq,decide_eq_false (idxe hl hi hn),tff];simp
  | cons x rest ih =>
    intro pre out f i len hl hi hn hf ho
    obtain ⟨f,rfl⟩:∃g,f=g+1:=⟨f-1,by simp at hf;omega⟩
    obtain ⟨hx,hxt⟩:=hok x (by rw[hl];simp)
    have hxr:=wv_range hx
    have hlv:=lvl_range hxr.1 hxt
    have hlen:=congrArg List.length hl
    simp only[List.length_append,List.length_cons] at hlen
    have inner:r38_Levels_l15 (n+3) loopFuel (top,out,mkW (wv x*9),(0:Int),(1:Int),l,len,i,())=some (.inl (top,out,lvl (wv top) (wv x),l,len,i,())):=by
      by_cases h0:wv top=0
      · rw[show loopFuel=(2^70-1)+1 from rfl,r38_lev_l15_0 n _ hto h0]
        unfold lvl;rw[if_pos h0]
      · have e:lvl (wv top) (wv x)=wv x*9 / wv top:=by unfold lvl;rw[if_neg h0]
        have:=r38_lev_l15 n hto h9 (by omega) (a:=wv x*9) (by omega) e hlv.2 out l len i 9 1 loopFuel (by omega) (by unfold loopFuel;omega) (Nat.le_refl _)
        rw[show ((1:Nat):Int)=1 from rfl,show (1:Int)-1=0 from rfl,if_pos hlv.1] at this
        exact this
    rw[r38_Levels_l10_eq,decide_eq_true (idx hl hi hn),tft,at_mid hl hi,obs,r01_times n hx 9 (by omega),obs]
    unfold timesW
    rw[if_pos (by omega)]
    simp only
    rw[inner,obs,selim_inl]
    simp only
    rw[decide_eq_true (by omega),tft,idxw hl hi (by omega),ih (pre++[x]) _ f (i+1) len (idxl hl) (idxs hi) hn (by simp at hf;omega) (by simp;omega),List.append_assoc]
    rfl
theorem r38_levels (n:Nat) {l:List Wd} {m:Nat} {top:Wd} (hL:l.length≤1000000) (hok:∀x∈l,WdOk x) (h:PeakAt l m) (hm:l[m]? = some top):r38_Levels (n+4) l=some (levT top l):=by
  have hat:at? l (m:Int)=some top:=by unfold at?;rw[decide_eq_true (by omega)];exact hm
  have hto:WdOk top:=hok top (List.mem_of_getElem? hm)
  have hmax:∀y∈l,wv y≤wv top:=by
    obtain ⟨z,hz,hmax,_⟩:=h
    have:=Option.some.inj (hz.symm.trans hm)
    subst this
    exact hmax
  rw[r38_Levels_eq,r38_peak n hL hok h,obs,Bool.not_true,tff,hat,obs,r01_times n hto 9 (by omega),obs]
  unfold timesW levT
  by_cases h9:wv top*9<340282366920938463463374607431768211456
  case neg=>rw[if_neg h9,if_neg h9];rfl
  rw[if_pos h9,if_pos h9]
  simp only[decide_true,Bool.not_true,tff]
  have:=r38_lev_l10 n hto h9 l hL (fun x hx=>⟨hok x hx,hmax x hx⟩) l [] [] loopFuel 0 _ rfl rfl rfl (by unfold loopFuel;omega) rfl
  rw[List.nil_append] at this
  rw[this,obs,selim_inl]
theorem r38_levels_nil (n:Nat):r38_Levels (n+4) []=some ([],0):=by
  rw[r38_Levels_eq,r38_peak_nil n];rfl
end Go.Proofs.YtgkpkajaepphjaaGreatDoor
namespace Go.Proofs.YtgkpkajaepphjaaGreatDoor
open Go.Flat
theorem ob {α β:Type} {o:Option α} {x:α} {f:α→Option β} {r:Option β} (h:o=some x) (k:f x=r):obind o f=r:=by rw[h];exact k
theorem tt {α:Type} {b:Bool} {x y r:α} (h:b=true) (k:x=r):tif b x y=r:=by rw[h];exact k
theorem tf {α:Type} {b:Bool} {x y r:α} (h:b=false) (k:y=r):tif b x y=r:=by rw[h];exact k
theorem atFuel {α σ:Type} {g:Nat→σ→Option α} {c:Nat} {s:σ} {r:Option α} (k:g (loopFuel-c+c) s=r) (h:c≤loopFuel):g loopFuel s=r:=by rw[Nat.sub_add_cancel h] at k;exact k
end Go.Proofs.YtgkpkajaepphjaaGreatDoor
