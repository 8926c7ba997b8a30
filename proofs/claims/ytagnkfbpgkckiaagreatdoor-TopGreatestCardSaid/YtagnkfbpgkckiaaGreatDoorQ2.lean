/-
 Plain proofs about the functions of this seat, part 2 of 3.
-/
import Derived.Test.YtagnkfbpgkckiaaGreatDoorQ1
namespace Go.Plim
set_option linter.unusedVariables false
def rng (w:Int) (l:List Ev) (i k:Int):List Ev:=l.filter fun e=>decide (i≤e.1 / w∧e.1 / w<k)
def win (w:Int) (l:List Ev) (i:Int):List Ev:=l.filter fun e=>decide (e.1 / w=i)
theorem tall_N {l:List Slo} {w:Int} (h:TierOk l w) {s:Slo} (hs:s∈tall l):CellN s.2:=(s0j h hs).1.n
structure TierInv (t:List Slo) (w:Int) (l:List Ev):Prop where
 ok:TierOk t w
 cells:∀s∈tall t,s.2=cellOf (win w l s.1)
 kept:∀i,(∃e∈l,e.1 / w=i)→(∀e∈l,e.1 / w<i+(t.length:Int))→(i,cellOf (win w l i))∈tall t
end Go.Plim

namespace Go.Proofs.YtagnkfbpgkckiaaGreatDoor
open Go.Flat Go.Plim
set_option linter.unusedVariables false
abbrev Trs:=List Slo×(List Slo×List Slo)
noncomputable instance (c:Conf):Decidable (OkC c):=Classical.propDecidable _
structure FoldOk (c:Conf) (s:Trs):Prop where
 cok:OkC c
 n0:(s.1.length:Int)=c.2.2.1.1
 n1:(s.2.1.length:Int)=c.2.2.1.2.1
 n2:(s.2.2.length:Int)=c.2.2.1.2.2
 t0:TierOk s.1 c.2.1.1
 t1:TierOk s.2.1 c.2.1.2.1
 t2:TierOk s.2.2 c.2.1.2.2
noncomputable instance (c:Conf) (s:Trs):Decidable (FoldOk c s):=Classical.propDecidable _
def mk1 (c:Conf) (s:Trs) (i:Int):Cel×Int:=j0l s.1 (i*(c.2.1.2.1 / c.2.1.1)) ((i+1)*(c.2.1.2.1 / c.2.1.1))
theorem a2u {a w m:Int} (hw:1≤w) (h:a≤m / w):a*w≤m :=
 Int.le_trans (Int.mul_le_mul_of_nonneg_right h (by omega)) (Int.ediv_mul_le m (by omega))
def Begins (w i:Int):Prop:=0≤i∧i≤35184372088831 / w
theorem Begins.mul {w i:Int} (hw:1≤w) (h:Begins w i):0≤i*w∧i*w≤35184372088831:=⟨Int.mul_nonneg h.1 (by omega),a2u hw h.2⟩
end Go.Proofs.YtagnkfbpgkckiaaGreatDoor
namespace Go.Proofs.YtagnkfbpgkckiaaGreatDoor
open Go.Flat Go.Plim
set_option linter.unusedVariables false
set_option linter.unusedSimpArgs false
structure TrsW (s:Trs):Prop where
 a:∀x∈s.1,SloW x
 b:∀x∈s.2.1,SloW x
 c:∀x∈s.2.2,SloW x
theorem FoldOk.w {c:Conf} {s:Trs} (h:FoldOk c s):TrsW s:=⟨k1q h.t0,k1q h.t1,k1q h.t2⟩
theorem a1f (n:Nat) (c:Conf):f0z (n+3) c=some (if OkC c then 0 else 2):=by
 by_cases h:OkC c
 ·rw[if_pos h,c1s n h]
 ·rw[if_neg h,check_no n h]
theorem m1y (n:Nat) (c:Conf) {s:Trs} (hw:TrsW s):f1b (n+8) c s=some (if FoldOk c s then (some (c,s),0) else (none,2)):=by
 rw[r1v,a1f (n+4),z0a n _ _ hw.a,z0a n _ _ hw.b,z0a n _ _ hw.c];simp only[obs,tfn,tfd];by_cases h0:OkC c
 case neg=>rw[if_neg (mt (z02 _).1 h0),if_neg h0,if_neg (fun k:FoldOk c s=>h0 k.cok)]
 rw[if_pos ((z02 _).2 h0)];by_cases h1:(s.1.length:Int)=c.2.2.1.1
 case neg=>rw[if_neg h1,if_neg (fun k:FoldOk c s=>h1 k.n0)]
 rw[if_pos h1];by_cases h2:TierOk s.1 c.2.1.1
 case neg=>rw[if_neg (mt (z02 _).1 h2),if_neg (fun k:FoldOk c s=>h2 k.t0)]
 rw[if_pos ((z02 _).2 h2)];by_cases h3:(s.2.1.length:Int)=c.2.2.1.2.1
 case neg=>rw[if_neg h3,if_neg (fun k:FoldOk c s=>h3 k.n1)]
 rw[if_pos h3];by_cases h4:TierOk s.2.1 c.2.1.2.1
 case neg=>rw[if_neg (mt (z02 _).1 h4),if_neg (fun k:FoldOk c s=>h4 k.t1)]
 rw[if_pos ((z02 _).2 h4)];by_cases h5:(s.2.2.length:Int)=c.2.2.1.2.2
 case neg=>rw[if_neg h5,if_neg (fun k:FoldOk c s=>h5 k.n2)]
 rw[if_pos h5];by_cases h6:TierOk s.2.2 c.2.1.2.2
 case neg=>rw[if_neg (mt (z02 _).1 h6),if_neg (fun k:FoldOk c s=>h6 k.t2)]
 rw[if_pos ((z02 _).2 h6),if_pos (⟨h0,h1,h3,h5,h2,h4,h6⟩:FoldOk c s)]
theorem b2n (n:Nat) (c:Conf) {s:Trs} (hw:TrsW s):a1c (n+9) c s=some (if FoldOk c s then 0 else 2):=by
 rw[m1z,m1y n c hw];by_cases h:FoldOk c s
 ·rw[if_pos h,if_pos h];rfl
 ·rw[if_neg h,if_neg h];rfl
noncomputable def emp (c:Conf):Trs:=if OkC c then (List.replicate c.2.2.1.1.toNat s0,(List.replicate c.2.2.1.2.1.toNat s0,List.replicate c.2.2.1.2.2.toNat s0)) else ([],([],[]))
theorem allE_okc (l:List Cel):∀c,c0k c→c0k (allE c l).1:=by
 induction l with
 | nil=>intro c h;exact h
 | cons x l ih =>
  intro c h;simp only[allE];split
  ·rename_i k;exact ih _ (f2l k).2.2.2.2
  ·exact s0y
theorem w0s (l:List Slo) (i k:Int):c0k (j0l l i k).1:=by
 unfold j0l;split
 ·exact s0y
 ·exact allE_okc _ _ s0y
theorem FoldOk.lens {c:Conf} {s:Trs} (h:FoldOk c s):s.1.length≤1000000∧s.2.1.length≤1000000∧s.2.2.length≤1000000:=by
 have:=h.t0.l1;have:=h.t1.l1;have:=h.t2.l1;omega
theorem trs_wf {s:Trs} (h:Wf (.wrap (.pair (.slice a0g) (.pair (.slice a0g) (.slice a0g)))) s):TrsW s:=by
 obtain ⟨h1,h2,h3⟩:=h;exact ⟨t1w h1,t1w h2,t1w h3⟩
abbrev Ser:=List Lab×(Int×(Rw×(Trs×Slo)))
structure SerW (s:Ser):Prop where
 last:I64 s.2.1
 raw:RawW s.2.2.1
 trs:TrsW s.2.2.2.1
 opn:SloW s.2.2.2.2
def d0l (l:List Slo) (i:Int):Prop:=∀s∈l,0<s.2.1→s.1<i
noncomputable instance (l i):Decidable (d0l l i):=Classical.propDecidable _
structure Fresh (s:Ser):Prop where
 raw:s.2.2.1.2.2=[]
 opn:s.2.2.2.2=s0
 b0:d0l s.2.2.2.1.1 0
 b1:d0l s.2.2.2.1.2.1 0
 b2:d0l s.2.2.2.1.2.2 0
structure EndsP (c:Conf) (s:Ser):Prop where
 last:∃e,s.2.2.1.2.2.getLast? = some e∧e.1=s.2.1
 ol:s.2.2.2.2.2.2.2.1.1=s.2.1
 fit:FitsP s.2.2.2.2.2 c.2.1.1 s.2.2.2.2.1
 b0:d0l s.2.2.2.1.1 (s.2.1 / c.2.1.1)
 b1:d0l s.2.2.2.1.2.1 (s.2.1 / c.2.1.2.1)
 b2:d0l s.2.2.2.1.2.2 (s.2.1 / c.2.1.2.2)
structure SerOk (c:Conf) (s:Ser):Prop where
 fold:FoldOk c s.2.2.2.1
 lab:LabOk s.1
 raw:RawOk s.2.2.1 c.1
 st:(s.2.1 = -1∧Fresh s)∨(s.2.1 ≠ -1∧EndsP c s)
noncomputable instance (s):Decidable (Fresh s):=Classical.propDecidable _
noncomputable instance (c s):Decidable (EndsP c s):=Classical.propDecidable _
noncomputable instance (c s):Decidable (SerOk c s):=Classical.propDecidable _
theorem n1r (n:Nat) {del:a0f×Unit→Option Bool} {p:Slo→Bool} (hd:∀x,del (x,())=some (p x)) (l:List Slo) (hL:l.length≤1000000):h0u (n+2) l del=some (l.any p):=by
 rw[q0i,l0g];rcases g2p hd n l hL l [] a0c 0 l.length rfl rfl rfl (by unfold a0c;omega) with ⟨h1,h2⟩ | ⟨A,x,B,h1,h2,h3,h4⟩
 ·rw[h1];have:l.any p=false:=by rw[List.any_eq_false];intro x hx;simp[h2 x hx]
  rw[this];rfl
 ·rw[h4];have:l.any p=true:=List.any_eq_true.2 ⟨x,by rw[h1];simp,h3⟩;simp only[obs,s0n,this,Int.zero_add];rw[decide_eq_true (by omega)]
theorem d0y (n:Nat) (l:List Slo) (i:Int) (hL:l.length≤1000000):e0q (n+3) l i=some (!decide (d0l l i)):=by
 rw[b1y,n1r (p:=fun s=>decide (0<s.2.1∧i≤s.1)) n (fun x=>by
  show m0k (n+1+1) x i=_;rw[x0h]
  by_cases h1:0<x.2.1<;>by_cases h2:i≤x.1<;>simp[h1,h2]) l hL]
 simp only[obs];refine congrArg some ?_;by_cases h:d0l l i
 ·rw[decide_eq_true h];rw[List.any_eq_false.2]
  ·rfl
  ·intro x hx k;have:=of_decide_eq_true k;have:=h x hx this.1;omega
 ·rw[decide_eq_false h];have:∃x∈l,0<x.2.1∧i≤x.1:=Classical.byContradiction fun k=>h fun x hx hc=>by
   rcases Int.lt_or_le x.1 i with q | q
   ·exact q
   ·exact absurd ⟨x,hx,hc,q⟩ k
  obtain ⟨x,hx,hq⟩:=this;rw[List.any_eq_true.2 ⟨x,hx,decide_eq_true hq⟩];rfl
theorem b2g (n:Nat) (c:Conf) {s:Ser} (hf:FoldOk c s.2.2.2.1):d1k (n+4) (c,s)=some (decide (Fresh s)):=by
 obtain ⟨l0,l1,l2⟩:=hf.lens;rw[p1n,sloEq0,d0y n _ _ l0,d0y n _ _ l1,d0y n _ _ l2];simp only[obs,Bool.not_not,tfd];by_cases h1:(s.2.2.1.2.2.length:Int)=0
 case neg=>rw[if_neg h1,decide_eq_false (fun k:Fresh s=>h1 (by rw[k.raw];rfl))]
 rw[if_pos h1];by_cases h2:s.2.2.2.2=s0
 case neg=>rw[if_neg h2,decide_eq_false (fun k:Fresh s=>h2 k.opn)]
 rw[if_pos h2];by_cases h3:d0l s.2.2.2.1.1 0
 case neg=>rw[if_neg h3,decide_eq_false (fun k:Fresh s=>h3 k.b0)]
 rw[if_pos h3];by_cases h4:d0l s.2.2.2.1.2.1 0
 case neg=>rw[if_neg h4,decide_eq_false (fun k:Fresh s=>h4 k.b1)]
 rw[if_pos h4];refine congrArg some (decide_eq_decide.2 ⟨fun k=>⟨List.length_eq_zero_iff.1 (by omega),h2,h3,h4,k⟩,fun k=>k.b2⟩)
theorem f2y {c:Conf} {s:Ser} (hr:RawOk s.2.2.1 c.1) {e:Ev} (he:s.2.2.1.2.2.getLast? = some e):EvOk e:=hr.f.ok e (List.mem_of_getLast? he)
theorem g2j (n:Nat) (c:Conf) {s:Ser} (hf:FoldOk c s.2.2.2.1) (hr:RawOk s.2.2.1 c.1) (hw:SerW s):c1l (n+7) (c,s)=some (decide (EndsP c s)):=by
 obtain ⟨l0,l1,l2⟩:=hf.lens;have hg:=hf.cok.rng;have hlen:=hr.len;have hm1:=hr.m1;rw[t1r,raw_last (n+5) s.2.2.1 (by omega)];cases hl:s.2.2.1.2.2.getLast? with
 | none =>
  simp only[obs];rw[show (decide ((3:Int)=0))=false from rfl,tff,decide_eq_false];intro k;obtain ⟨e,he,_⟩:=k.last;rw[hl] at he;cases he
 | some e =>
  have heo:=f2y hr hl;simp only[obs,decide_true,tft,tfd,if_true];by_cases h1:e.1=s.2.1
  case neg =>
   rw[if_neg h1,decide_eq_false];intro k;obtain ⟨e',he,hq⟩:=k.last;rw[hl] at he;injection he with he;subst he;exact h1 hq
  rw[if_pos h1];by_cases h2:s.2.2.2.2.2.2.2.1.1=s.2.1
  case neg=>rw[if_neg h2,decide_eq_false (fun k:EndsP c s=>h2 k.ol)]
  have q0:=e2p heo hg.w0.1;have q1:=e2p heo hg.w1.1;have q2:=e2p heo hg.w2.1;rw[h1] at q0 q1 q2;rw[if_pos h2,o1z n hw.opn.c];simp only[obs,tfd,q0,q1,q2,d0y (n+3) _ _ l0,d0y (n+3) _ _ l1,d0y (n+3) _ _ l2,Bool.not_not,if_neg (show ¬(c.2.1.1=0) by have:=hg.w0;omega),if_neg (show ¬(c.2.1.2.1=0) by have:=hg.w1;omega),if_neg (show ¬(c.2.1.2.2=0) by have:=hg.w2;omega)];by_cases h3:FitsP s.2.2.2.2.2 c.2.1.1 s.2.2.2.2.1
  case neg=>rw[if_neg h3,decide_eq_false (fun k:EndsP c s=>h3 k.fit)]
  rw[if_pos h3];by_cases h4:d0l s.2.2.2.1.1 (s.2.1 / c.2.1.1)
  case neg=>rw[if_neg h4,decide_eq_false (fun k:EndsP c s=>h4 k.b0)]
  rw[if_pos h4];by_cases h5:d0l s.2.2.2.1.2.1 (s.2.1 / c.2.1.2.1)
  case neg=>rw[if_neg h5,decide_eq_false (fun k:EndsP c s=>h5 k.b1)]
  rw[if_pos h5];refine congrArg some (decide_eq_decide.2 ⟨fun k=>⟨⟨e,hl,h1⟩,h2,h3,h4,h5,k⟩,fun k=>k.b2⟩)
theorem z08 (p:Prop) [Decidable p]:((if p then (0:Int) else 8)=0)↔p:=by by_cases h:p<;>simp[h]
theorem i0u (n:Nat) (c:Conf) {s:Ser} (hw:SerW s):q0m (n+10) c s=some (if SerOk c s then (some (c,s),0) else (none,2)):=by
 rw[g1f,b2n n c hw.trs,r0a (n+3),e2n (n+4) _ _ hw.raw];simp only[obs,tfn,tfd];by_cases h1:FoldOk c s.2.2.2.1
 case neg=>rw[if_neg (mt (z02 _).1 h1),if_neg (fun k:SerOk c s=>h1 k.fold)]
 by_cases h2:LabOk s.1
 case neg=>rw[if_pos ((z02 _).2 h1),if_neg (mt (z08 _).1 h2),if_neg (fun k:SerOk c s=>h2 k.lab)]
 by_cases h3:RawOk s.2.2.1 c.1
 case neg=>rw[if_pos ((z02 _).2 h1),if_pos ((z08 _).2 h2),if_neg (mt (z02 _).1 h3),if_neg (fun k:SerOk c s=>h3 k.raw)]
 rw[if_pos ((z02 _).2 h1),if_pos ((z08 _).2 h2),if_pos ((z02 _).2 h3),b2g (n+5) c h1,g2j (n+2) c h1 h3 hw];simp only[obs,tfd];by_cases h4:s.2.1 = -1
 ·rw[if_pos h4];by_cases h5:Fresh s
  ·rw[if_pos h5,if_pos (⟨h1,h2,h3,.inl ⟨h4,h5⟩⟩:SerOk c s)]
  ·rw[if_neg h5,if_pos h4,if_neg (fun k:SerOk c s=>by
    rcases k.st with q | q
    ·exact h5 q.2
    ·exact q.1 h4)]
 ·rw[if_neg h4,if_neg h4];by_cases h5:EndsP c s
  ·rw[if_pos h5,if_pos (⟨h1,h2,h3,.inr ⟨h4,h5⟩⟩:SerOk c s)]
  ·rw[if_neg h5,if_neg (fun k:SerOk c s=>by
    rcases k.st with q | q
    ·exact h4 q.1
    ·exact h5 q.2)]
theorem q1u {l:List Slo} {w:Int} (h:TierOk l w) (i:Int):d0l l i↔∀s∈tall l,s.1<i:=by
 constructor
 ·intro k s hs;have:=(tall_N h hs).n1;exact k s (m1i.1 hs).1 (by omega)
 ·intro k s hs hc;exact k s (m1i.2 ⟨hs,fun e=>by rw[e] at hc;simp[s0,z0] at hc⟩)
theorem nn {α:Type} {a b:α} (h:a=b):¬(a≠b):=fun k=>k h
def ser0:Ser:=([],(0,(r0w,(([],([],[])),s0))))
end Go.Proofs.YtagnkfbpgkckiaaGreatDoor

namespace Go.Plim
set_option linter.unusedVariables false
def below (w:Int) (l:List Ev) (t:Int):List Ev:=l.filter fun e=>decide (e.1 / w<t / w)
structure EndsAt (l:List Ev) (t:Int):Prop where
 foll:Foll l
 le:∀e∈l,e.1≤t
 last:∃e∈l,e.1=t
theorem edvm {t a b:Int} (ha:1≤a) (hb:1≤b) (hm:b % a=0):t / a*a / b=t / b∧t / a / (b / a)=t / b:=by
 have e:a*(b / a)=b:=by have:=Int.mul_ediv_add_emod b a;omega
 have h1:t / a / (b / a)=t / b:=by rw[Int.ediv_ediv_of_nonneg (by omega),e]
 refine ⟨?_,h1⟩;rw[←h1]
 conv=>lhs;rw[←e,Int.mul_comm (t / a) a]
 exact Int.mul_ediv_mul_of_pos _ _ (by omega)
end Go.Plim
namespace Go.Proofs.YtagnkfbpgkckiaaGreatDoor
open Go.Flat Go.Plim
structure FInv (c:Conf) (s:Trs) (l:List Ev) (t:Int):Prop where
 ok:FoldOk c s
 i0:TierInv s.1 c.2.1.1 (below c.2.1.1 l t)
 i1:TierInv s.2.1 c.2.1.2.1 (below c.2.1.2.1 l t)
 i2:TierInv s.2.2 c.2.1.2.2 (below c.2.1.2.2 l t)
end Go.Proofs.YtagnkfbpgkckiaaGreatDoor
namespace Go.Proofs.YtagnkfbpgkckiaaGreatDoor
open Go.Flat Go.Plim
set_option linter.unusedVariables false
set_option linter.unusedSimpArgs false
theorem allE_up {w:Int}:∀(L:List Slo) (c:Cel) (lo:Int),Up L→(∀s∈L,FitsP s.2 w s.1∧lo≤s.1)→c0k c→(c=z0∨c.2.2.1.1 / w<lo)→(allE c (L.map (·.2))).2=0:=by
 intro L;induction L with
 | nil=>intro c lo _ _ _ _;rfl
 | cons s L ih =>
  intro c lo hu hs hc hl;unfold Up at hu;rw[List.pairwise_cons] at hu;obtain ⟨hf,h1⟩:=hs s (by simp);have ha:Ahead c s.2:=by
   rcases hl with h | h
   ·exact .inl h
   ·refine .inr (.inr ?_);have e:=hf.f;rcases Int.lt_or_le c.2.2.1.1 s.2.2.1.1 with q | q
    ·exact q
    ·have:=Int.ediv_le_ediv (c:=w) (by have:=hf.w0;omega) q;omega
  have em:mrgE c s.2=(mrg c s.2,0):=by unfold mrgE;rw[if_pos (And.intro hc hf.n.ok),if_pos ha]
  simp only[List.map_cons,allE];rw[em,if_pos rfl];refine ih _ (s.1+1) hu.2 (fun x hx=>⟨(hs x (by simp[hx])).1,by have:=hu.1 x hx;omega⟩) (q1v hc hf.n.ok ha) (.inr ?_);have el:(mrg c s.2).2.2.1.1=s.2.2.2.1.1:=by
   unfold mrg;by_cases k:c=z0
   ·rw[if_pos k]
   ·rw[if_neg k,if_neg hf.n.ne]
  rw[el,hf.l];omega
theorem j0k {l:List Slo} {w i k:Int} (h:TierOk l w) (h0:0≤i) (hik:i≤k):(j0l l i k).2=0:=by
 unfold j0l;rw[if_neg (by omega)];unfold within;refine allE_up (w:=w) _ z0 0 ((k1s h).filter _) (fun s hs => ?_) s0y (.inl rfl);have:=(s0j h (List.mem_filter.1 hs).1).1;exact ⟨this,this.i0.1⟩
noncomputable def now1 (c:Conf) (s:Ser):Cel×Int:=mrgE (j0l s.2.2.2.1.1 (s.2.1 / c.2.1.2.1*(c.2.1.2.1 / c.2.1.1)) (s.2.1 / c.2.1.1)).1 s.2.2.2.2.2
noncomputable def now2 (c:Conf) (s:Ser):Cel×Int :=
 if (now1 c s).2≠0 then (z0,(now1 c s).2) else mrgE (j0l s.2.2.2.1.2.1 (s.2.1 / c.2.1.2.2*(c.2.1.2.2 / c.2.1.2.1)) (s.2.1 / c.2.1.2.1)).1 (now1 c s).1
theorem d1g (l:List Slo) (i k:Int):CelW (j0l l i k).1 := .of (w0s l i k)
theorem i1w {c:Conf} {s:Ser} (h:SerOk c s) (hn:¬(s.2.1 = -1)):EndsP c s∧∃e,EvOk e∧e.1=s.2.1:=by
 rcases h.st with q | q
 ·exact absurd q.1 hn
 ·obtain ⟨e,he,h1⟩:=q.2.last;exact ⟨q.2,e,f2y h.raw he,h1⟩
theorem j1c {a b t:Int} (ha:1≤a∧a≤1099511627776) (hb:1≤b∧b≤1099511627776) (hm:b % a=0) (ht:0≤t∧t<35184372088832) :
  0≤t / b*(b / a)∧t / b*(b / a)≤t / a∧t / a<35184372088832∧0≤t / a:=by
 have h1:=(edvm (t:=t) ha.1 hb.1 hm).2;have h2:0≤t / b:=Int.ediv_nonneg ht.1 (by omega);have h3:0≤b / a:=Int.ediv_nonneg (by omega) (by omega);have h4:0≤t / a:=Int.ediv_nonneg ht.1 (by omega);have h5:t / a≤t:=Int.ediv_le_self _ ht.1;refine ⟨Int.mul_nonneg h2 h3,?_,by omega,h4⟩;have h6:1≤b / a:=by
  have e:a*(b / a)=b:=by have:=Int.mul_ediv_add_emod b a;omega
  rcases Int.lt_or_le 0 (b / a) with q | q
  ·omega
  ·have:b / a=0:=by omega
   rw[this] at e;omega
 rw[←h1];exact Int.ediv_mul_le _ (by omega)
structure At (c:Conf) (s:Ser):Prop where
 l0:0≤s.2.1
 l1:s.2.1<35184372088832
theorem t0u {c:Conf} {s:Ser} (h:SerOk c s) (hn:¬(s.2.1 = -1)):0≤s.2.1∧s.2.1<35184372088832:=by
 obtain ⟨_,e,he,h1⟩:=i1w h hn;rw[←h1];exact ⟨he.t0,he.t1⟩
theorem u0x {t:Int} (ht:0≤t∧t<35184372088832) {w:Int} (hw:1≤w):IntKind.wrap .i64 (Int.tdiv t w)=t / w:=by
 have:0≤t / w:=Int.ediv_nonneg ht.1 (by omega);have:t / w≤t:=Int.ediv_le_self _ ht.1;rw[v0k ht.1,w64 (by omega) (by omega)]
theorem nz {w:Int} (h:1≤w):¬(w=0):=by omega
theorem r1k (n:Nat) (c:Conf) (s:Ser):m0h (n+1) (c,s) 0=some (s.2.2.2.2.2,0):=by rw[p1m]
theorem mrgE_nn (a b:Cel):0≤(mrgE a b).2:=by
 unfold mrgE;split
 ·split<;>simp
 ·simp
theorem r1j (n:Nat) (c:Conf) {s:Ser} (h:SerOk c s) (hw:SerW s) (hn:¬(s.2.1 = -1)):m0h (n+19) (c,s) 1=some (now1 c s):=by
 have hr:=h.fold.cok.rng;have ht:=t0u h hn;obtain ⟨o1,o2,o3,o4⟩:=j1c hr.w0 hr.w1 h.fold.cok.m1 ht;rw[p1l];simp only[tfd,tfn,if_neg (nz hr.w0.1),if_neg (nz hr.w1.1),u0x ht hr.w0.1,u0x ht hr.w1.1,a2g hr.w1 hr.w0.1];rw[w64 (by omega) (by omega),s0g n h.fold.t0,r1k (n+17)];simp only[obs,j0k h.fold.t0 o1 o2,if_true,l0z (n+12) (d1g _ _ _) hw.opn.c];rfl
theorem now1_w (c:Conf) (s:Ser):CelW (now1 c s).1:=f2k _ _
theorem g2i (n:Nat) (c:Conf) {s:Ser} (h:SerOk c s) (hw:SerW s) (hn:¬(s.2.1 = -1)):m0h (n+20) (c,s) 2=some (now2 c s):=by
 have hr:=h.fold.cok.rng;have ht:=t0u h hn;obtain ⟨o1,o2,o3,o4⟩:=j1c hr.w1 hr.w2 h.fold.cok.m2 ht;rw[p1k];simp only[tfd,tfn,if_neg (nz hr.w1.1),if_neg (nz hr.w2.1),u0x ht hr.w1.1,u0x ht hr.w2.1,a2g hr.w2 hr.w1.1];rw[w64 (by omega) (by omega),s0g (n+1) h.fold.t1,r1j n c h hw hn];simp only[obs,j0k h.fold.t1 o1 o2,if_true,l0z (n+13) (d1g _ _ _) (now1_w c s)];unfold now2;by_cases k:(now1 c s).2=0
 ·rw[if_pos k,if_neg (nn k)]
 ·have:0≤(now1 c s).2:=mrgE_nn _ _;rw[if_neg k,if_pos k,if_pos (by omega)];rfl
noncomputable def f0f (ok:Prop) [Decidable ok] (i j last w:Int) (t:List Slo) (now:Cel×Int):Cel×Int :=
 if ok then (if i<0 then (z0,1) else if j<i then (z0,1) else if last = -1 then (z0,0) else if last / w<i then j0l t i j else if j≤last / w then j0l t i j else if now.2≠0 then (z0,now.2) else mrgE (j0l t i j).1 now.1) else (z0,2)
theorem now2_w (c:Conf) (s:Ser):CelW (now2 c s).1:=by
 unfold now2;split
 ·exact a1l
 ·exact f2k _ _
theorem b2f (n:Nat) (c:Conf) {s:Ser} (h:SerOk c s) (hw:SerW s) {i j:Int} (h0:¬i<0) (hij:¬j<i):q0d (n+21) (c,s) 0 i j=some (f0f (SerOk c s) i j s.2.1 c.2.1.1 s.2.2.2.1.1 (s.2.2.2.2.2,0)):=by
 rw[k1y];unfold f0f;rw[if_pos h,if_neg h0,if_neg hij];simp only[tfd,tfn];by_cases hn:s.2.1 = -1
 ·rw[if_pos hn,if_pos hn];rfl
 have hr:=h.fold.cok.rng;have ht:=t0u h hn;rw[if_neg hn,if_neg hn,if_neg (nz hr.w0.1),u0x ht hr.w0.1,s0g (n+2) h.fold.t0];simp only[obs,j0k h.fold.t0 (show 0≤i by omega) (show i≤j by omega),if_true];by_cases h2:s.2.1 / c.2.1.1<i
 ·rw[if_pos h2,if_pos h2]
 rw[if_neg h2,if_neg h2];by_cases h3:j≤s.2.1 / c.2.1.1
 ·rw[if_pos h3,if_pos h3]
 rw[if_neg h3,if_neg h3,r1k (n+19) c s];simp only[obs,l0z (n+14) (d1g _ _ _) hw.opn.c];rw[if_pos trivial,if_neg (nn rfl)]
theorem l1e (n:Nat) (c:Conf) {s:Ser} (hw:SerW s) (i j:Int):e0r (n+22) c s 0 i j=some (f0f (SerOk c s) i j s.2.1 c.2.1.1 s.2.2.2.1.1 (s.2.2.2.2.2,0)):=by
 rw[m0l,i0u (n+11) c hw];by_cases h:SerOk c s
 case neg=>unfold f0f;rw[if_neg h,if_neg h];rfl
 rw[if_pos h];simp only[obs,z0v,decide_true,Bool.not_true,tff,tfd,if_neg (show ¬((0:Int)<0) by omega),if_neg (show ¬((3:Int)≤0) by omega)];by_cases h1:i<0
 ·unfold f0f;rw[if_pos h1,if_pos h,if_pos h1];rfl
 by_cases h2:j<i
 ·unfold f0f;rw[if_neg h1,if_pos h2,if_pos h,if_neg h1,if_pos h2];rfl
 rw[if_neg h1,if_neg h2,b2f n c h hw h1 h2];rfl
theorem b2e (n:Nat) (c:Conf) {s:Ser} (h:SerOk c s) (hw:SerW s) {i j:Int} (h0:¬i<0) (hij:¬j<i):q0d (n+21) (c,s) 1 i j=some (f0f (SerOk c s) i j s.2.1 c.2.1.2.1 s.2.2.2.1.2.1 (now1 c s)):=by
 rw[k1x];unfold f0f;rw[if_pos h,if_neg h0,if_neg hij];simp only[tfd,tfn];by_cases hn:s.2.1 = -1
 ·rw[if_pos hn,if_pos hn];rfl
 have hr:=h.fold.cok.rng;have ht:=t0u h hn;rw[if_neg hn,if_neg hn,if_neg (nz hr.w1.1),u0x ht hr.w1.1,s0g (n+2) h.fold.t1];simp only[obs,j0k h.fold.t1 (show 0≤i by omega) (show i≤j by omega),if_true];by_cases h2:s.2.1 / c.2.1.2.1<i
 ·rw[if_pos h2,if_pos h2]
 rw[if_neg h2,if_neg h2];by_cases h3:j≤s.2.1 / c.2.1.2.1
 ·rw[if_pos h3,if_pos h3]
 rw[if_neg h3,if_neg h3,r1j (n+1) c h hw hn];simp only[obs,l0z (n+14) (d1g _ _ _) (now1_w c s)];by_cases h4:(now1 c s).2=0
 ·rw[if_pos h4,if_neg (nn h4)]
 ·rw[if_neg h4,if_pos h4];rfl
theorem l1d (n:Nat) (c:Conf) {s:Ser} (hw:SerW s) (i j:Int):e0r (n+22) c s 1 i j=some (f0f (SerOk c s) i j s.2.1 c.2.1.2.1 s.2.2.2.1.2.1 (now1 c s)):=by
 rw[m0l,i0u (n+11) c hw];by_cases h:SerOk c s
 case neg=>unfold f0f;rw[if_neg h,if_neg h];rfl
 rw[if_pos h];simp only[obs,z0v,decide_true,Bool.not_true,tff,tfd,if_neg (show ¬((1:Int)<0) by omega),if_neg (show ¬((3:Int)≤1) by omega)];by_cases h1:i<0
 ·unfold f0f;rw[if_pos h1,if_pos h,if_pos h1];rfl
 by_cases h2:j<i
 ·unfold f0f;rw[if_neg h1,if_pos h2,if_pos h,if_neg h1,if_pos h2];rfl
 rw[if_neg h1,if_neg h2,b2e n c h hw h1 h2];rfl
theorem b2d (n:Nat) (c:Conf) {s:Ser} (h:SerOk c s) (hw:SerW s) {i j:Int} (h0:¬i<0) (hij:¬j<i):q0d (n+21) (c,s) 2 i j=some (f0f (SerOk c s) i j s.2.1 c.2.1.2.2 s.2.2.2.1.2.2 (now2 c s)):=by
 rw[k1w];unfold f0f;rw[if_pos h,if_neg h0,if_neg hij];simp only[tfd,tfn];by_cases hn:s.2.1 = -1
 ·rw[if_pos hn,if_pos hn];rfl
 have hr:=h.fold.cok.rng;have ht:=t0u h hn;rw[if_neg hn,if_neg hn,if_neg (nz hr.w2.1),u0x ht hr.w2.1,s0g (n+2) h.fold.t2];simp only[obs,j0k h.fold.t2 (show 0≤i by omega) (show i≤j by omega),if_true];by_cases h2:s.2.1 / c.2.1.2.2<i
 ·rw[if_pos h2,if_pos h2]
 rw[if_neg h2,if_neg h2];by_cases h3:j≤s.2.1 / c.2.1.2.2
 ·rw[if_pos h3,if_pos h3]
 rw[if_neg h3,if_neg h3,g2i n c h hw hn];simp only[obs,l0z (n+14) (d1g _ _ _) (now2_w c s)];by_cases h4:(now2 c s).2=0
 ·rw[if_pos h4,if_neg (nn h4)]
 ·rw[if_neg h4,if_pos h4];rfl
theorem l1c (n:Nat) (c:Conf) {s:Ser} (hw:SerW s) (i j:Int):e0r (n+22) c s 2 i j=some (f0f (SerOk c s) i j s.2.1 c.2.1.2.2 s.2.2.2.1.2.2 (now2 c s)):=by
 rw[m0l,i0u (n+11) c hw];by_cases h:SerOk c s
 case neg=>unfold f0f;rw[if_neg h,if_neg h];rfl
 rw[if_pos h];simp only[obs,z0v,decide_true,Bool.not_true,tff,tfd,if_neg (show ¬((2:Int)<0) by omega),if_neg (show ¬((3:Int)≤2) by omega)];by_cases h1:i<0
 ·unfold f0f;rw[if_pos h1,if_pos h,if_pos h1];rfl
 by_cases h2:j<i
 ·unfold f0f;rw[if_neg h1,if_pos h2,if_pos h,if_neg h1,if_pos h2];rfl
 rw[if_neg h1,if_neg h2,b2d n c h hw h1 h2];rfl
theorem z1k (n f:Nat) (s:Trs):e0s n (f+1) (s,(3:Int),())=some (.inl ()):=by
 rw[i0w,show (decide ((3:Int)<3))=false from rfl,tff]
theorem z1l (n f:Nat) (s:Trs):e0s n (f+2) (s,(2:Int),())=some (if (40:Int)<s.2.2.length then .inr 0 else .inl ()):=by
 rw[i0w,show (decide ((2:Int)<3))=true from rfl,tft,show (decide ((2:Int)=0))=false from rfl,tff,show (decide ((2:Int)=1))=false from rfl,tff,show (decide ((2:Int)=2))=true from rfl,tft];rw[show IntKind.wrap .i64 ((2:Int)+1)=3 from rfl,z1k];simp only[tfd];split<;>rfl
theorem z1m (n f:Nat) (s:Trs):e0s n (f+3) (s,(1:Int),())=some (if (40:Int)<s.2.1.length∨(40:Int)<s.2.2.length then .inr 0 else .inl ()):=by
 rw[i0w,show (decide ((1:Int)<3))=true from rfl,tft,show (decide ((1:Int)=0))=false from rfl,tff,show (decide ((1:Int)=1))=true from rfl,tft];rw[show IntKind.wrap .i64 ((1:Int)+1)=2 from rfl,z1l];simp only[tfd];by_cases h:(40:Int)<s.2.1.length
 ·rw[if_pos h,if_pos (.inl h)]
 ·rw[if_neg h];by_cases h':(40:Int)<s.2.2.length
  ·rw[if_pos h',if_pos (.inr h')]
  ·rw[if_neg h',if_neg (fun k=>k.elim h h')]
theorem z1o (n f:Nat) (s:Trs):e0s n (f+4) (s,(0:Int),())=some (if (40:Int)<s.1.length∨(40:Int)<s.2.1.length∨(40:Int)<s.2.2.length then .inr 0 else .inl ()):=by
 rw[i0w,show (decide ((0:Int)<3))=true from rfl,tft,show (decide ((0:Int)=0))=true from rfl,tft];rw[show IntKind.wrap .i64 ((0:Int)+1)=1 from rfl,z1m];simp only[tfd];by_cases h:(40:Int)<s.1.length
 ·rw[if_pos h,if_pos (.inl h)]
 ·rw[if_neg h];by_cases h':(40:Int)<s.2.1.length∨(40:Int)<s.2.2.length
  ·rw[if_pos h',if_pos (.inr h')]
  ·rw[if_neg h',if_neg (fun k=>k.elim h h')]
def a1s (s:Trs):Prop:=s.1.length≤40∧s.2.1.length≤40∧s.2.2.length≤40
instance (s:Trs):Decidable (a1s s):=by unfold a1s;infer_instance
theorem g2c (n:Nat) (s:Trs):e1w (n+1) s=some (if a1s s then 1 else 0):=by
 rw[r1f,show a0c=(2^70-4)+4 from by decide,z1o];by_cases h:a1s s
 ·rw[if_pos h,if_neg (by unfold a1s at h;omega)];rfl
 ·rw[if_neg h,if_pos (by unfold a1s at h;omega)];rfl
structure SerL (s:Ser):Prop where
 l:s.1.length≤1000000
 r:s.2.2.1.2.2.length≤1000000
 a:s.2.2.2.1.1.length≤1000000
 b:s.2.2.2.1.2.1.length≤1000000
 d:s.2.2.2.1.2.2.length≤1000000
theorem a1y (n:Nat) (c:Conf) {s:Ser} (hw:SerW s):n0o (n+11) c s=some (if SerOk c s then 0 else 2):=by
 rw[d1s,i0u n c hw];by_cases h:SerOk c s
 ·rw[if_pos h,if_pos h];rfl
 ·rw[if_neg h,if_neg h];rfl
theorem d2z (n:Nat) (l:List Lab) (hL:l.length≤9223372036854775807):∀(rest pre:List Lab) (f:Nat) (ix len:Int),l=pre++rest→ix=pre.length→len=l.length→rest.length<f →
  k0s n f (l,len,ix,())=some (.inl ())∨k0s n f (l,len,ix,())=some (.inr 0):=by
 intro rest;induction rest with
 | nil =>
  intro pre f ix len hl hi hn hf;obtain ⟨f,rfl⟩:∃g,f=g+1:=⟨f-1,by simp at hf;omega⟩;left;rw[t0d];simp only[tfd,if_neg (idxe hl hi hn)]
 | cons x rest ih =>
  intro pre f ix len hl hi hn hf;obtain ⟨f,rfl⟩:∃g,f=g+1:=⟨f-1,by simp at hf;omega⟩;have hlen:=congrArg List.length hl;simp at hlen;rw[t0d];simp only[tfd,if_pos (idx hl hi hn),c0w hl hi,obs];rw[w64 (x:=ix+1) (by omega) (by omega)];by_cases h1:ix=40
  ·right;rw[if_pos h1]
  rw[if_neg h1];by_cases h2:(1000:Int)<x.1.length
  ·right;rw[if_pos h2]
  rw[if_neg h2];by_cases h3:(1000:Int)<x.2.length
  ·right;rw[if_pos h3]
  rw[if_neg h3];exact ih (pre++[x]) f (ix+1) len (idxl hl) (idxs hi) hn (by simp at hf;omega)
theorem g2e (n:Nat) (l:List Lab) (hL:l.length≤9223372036854775807):y0i (n+1) l=some 0∨y0i (n+1) l=some 1:=by
 rw[r1h];rcases d2z n l hL l [] a0c 0 _ rfl rfl rfl (by unfold a0c;omega) with h | h
 ·right;rw[h];rfl
 ·left;rw[h];rfl
theorem g2b (n:Nat) (s:Ser) (hL:s.1.length≤9223372036854775807):y0g (n+2) s=some 0∨y0g (n+2) s=some 1:=by
 rw[r1e];rcases g2e n s.1 hL with h | h
 ·left;rw[h];rfl
 ·rw[h];simp only[obs,tfd,if_neg (show ¬((1:Int)=0) by omega)];by_cases h1:(60:Int)<s.2.2.1.2.2.length
  ·left;rw[if_pos h1]
  rw[if_neg h1,g2c];simp only[obs];split
  ·right;rfl
  ·left;rfl
theorem ser_wf {s:Ser} (h:Wf a0x s):SerW s:=by
 obtain ⟨h1,h2,h3,h4,h5⟩:=h;refine ⟨h2,?_,trs_wf h4,slo_wf h5⟩;intro e he;exact ev_wf (h3.2.2.2 e he)
theorem w0e (n:Nat) (a b:List Lab) (hL:a.length≤9223372036854775807):∀(ra rb pa pb:List Lab) (f:Nat) (ix len:Int),a=pa++ra→b=pb++rb→pa.length=pb.length→ra.length=rb.length→ix=pa.length→len=a.length→ra.length<f →
  g0u n f (a,b,len,ix,())=some (if ra=rb then .inl () else .inr false):=by
 intro ra;induction ra with
 | nil =>
  intro rb pa pb f ix len ha hb hp hr hi hn hf;obtain ⟨f,rfl⟩:∃g,f=g+1:=⟨f-1,by simp at hf;omega⟩;have e:rb=[]:=List.length_eq_zero_iff.1 (by simpa using hr.symm);subst e;rw[l0i,decide_eq_false (idxe ha hi hn),tff,if_pos rfl]
 | cons x ra ih =>
  intro rb pa pb f ix len ha hb hp hr hi hn hf;obtain ⟨f,rfl⟩:∃g,f=g+1:=⟨f-1,by simp at hf;omega⟩;cases rb with
  | nil=>simp at hr
  | cons y rb =>
   have hlen:=congrArg List.length ha;simp at hlen;rw[l0i,decide_eq_true (idx ha hi hn),tft,c0w ha hi,c0w hb (by omega)];simp only[obs,labEq];rw[w64 (x:=ix+1) (by omega) (by omega)];by_cases h:x=y
   ·subst h;simp only[decide_true,Bool.not_true,tff];rw[ih rb (pa++[x]) (pb++[x]) f (ix+1) len (idxl ha) (idxl hb) (by simp;omega) (by simpa using hr) (idxs hi) hn (by simp at hf;omega)];simp
   ·rw[if_neg (by simp[h])];simp only[decide_eq_false h,Bool.not_false,tft]
theorem p0n (n:Nat) (a b:List Lab) (hL:a.length≤9223372036854775807):o0k (n+1) a b=some (decide (a=b)):=by
 rw[z0g];by_cases h:a.length=b.length
 ·rw[decide_eq_true (show ((a.length:Nat):Int)=(b.length:Nat) by omega)];simp only[Bool.not_true,tff];rw[w0e n a b hL a b [] [] a0c 0 _ rfl rfl rfl h rfl rfl (by unfold a0c;omega)];by_cases h':a=b
  ·rw[if_pos h',decide_eq_true h'];rfl
  ·rw[if_neg h',decide_eq_false h'];rfl
 ·rw[decide_eq_false (show ¬((a.length:Nat):Int)=(b.length:Nat) by omega),decide_eq_false (fun k:a=b=>h (by rw[k]))];rfl
theorem w0f (n:Nat) (a b:List Ev) (hL:a.length≤9223372036854775807):∀(ra rb pa pb:List Ev) (f:Nat) (ix len:Int),a=pa++ra→b=pb++rb→pa.length=pb.length→ra.length=rb.length→ix=pa.length→len=a.length→ra.length<f →
  g0v n f (a,b,len,ix,())=some (if ra=rb then .inl () else .inr false):=by
 intro ra;induction ra with
 | nil =>
  intro rb pa pb f ix len ha hb hp hr hi hn hf;obtain ⟨f,rfl⟩:∃g,f=g+1:=⟨f-1,by simp at hf;omega⟩;have e:rb=[]:=List.length_eq_zero_iff.1 (by simpa using hr.symm);subst e;rw[l0j,decide_eq_false (idxe ha hi hn),tff,if_pos rfl]
 | cons x ra ih =>
  intro rb pa pb f ix len ha hb hp hr hi hn hf;obtain ⟨f,rfl⟩:∃g,f=g+1:=⟨f-1,by simp at hf;omega⟩;cases rb with
  | nil=>simp at hr
  | cons y rb =>
   have hlen:=congrArg List.length ha;simp at hlen;rw[l0j,decide_eq_true (idx ha hi hn),tft,c0w ha hi,c0w hb (by omega)];simp only[obs,evEq];rw[w64 (x:=ix+1) (by omega) (by omega)];by_cases h:x=y
   ·subst h;simp only[decide_true,Bool.not_true,tff];rw[ih rb (pa++[x]) (pb++[x]) f (ix+1) len (idxl ha) (idxl hb) (by simp;omega) (by simpa using hr) (idxs hi) hn (by simp at hf;omega)];simp
   ·rw[if_neg (by simp[h])];simp only[decide_eq_false h,Bool.not_false,tft]
theorem a1d (n:Nat) (a b:List Ev) (hL:a.length≤9223372036854775807):o0l (n+1) a b=some (decide (a=b)):=by
 rw[z0h];by_cases h:a.length=b.length
 ·rw[decide_eq_true (show ((a.length:Nat):Int)=(b.length:Nat) by omega)];simp only[Bool.not_true,tff];rw[w0f n a b hL a b [] [] a0c 0 _ rfl rfl rfl h rfl rfl (by unfold a0c;omega)];by_cases h':a=b
  ·rw[if_pos h',decide_eq_true h'];rfl
  ·rw[if_neg h',decide_eq_false h'];rfl
 ·rw[decide_eq_false (show ¬((a.length:Nat):Int)=(b.length:Nat) by omega),decide_eq_false (fun k:a=b=>h (by rw[k]))];rfl
theorem y0n (n:Nat) (a b:List Slo) (hL:a.length≤9223372036854775807):∀(ra rb pa pb:List Slo) (f:Nat) (ix len:Int),a=pa++ra→b=pb++rb→pa.length=pb.length→ra.length=rb.length→ix=pa.length→len=a.length→ra.length<f →
  i0d n f (a,b,len,ix,())=some (if ra=rb then .inl () else .inr false):=by
 intro ra;induction ra with
 | nil =>
  intro rb pa pb f ix len ha hb hp hr hi hn hf;obtain ⟨f,rfl⟩:∃g,f=g+1:=⟨f-1,by simp at hf;omega⟩;have e:rb=[]:=List.length_eq_zero_iff.1 (by simpa using hr.symm);subst e;rw[m0j,decide_eq_false (idxe ha hi hn),tff,if_pos rfl]
 | cons x ra ih =>
  intro rb pa pb f ix len ha hb hp hr hi hn hf;obtain ⟨f,rfl⟩:∃g,f=g+1:=⟨f-1,by simp at hf;omega⟩;cases rb with
  | nil=>simp at hr
  | cons y rb =>
   have hlen:=congrArg List.length ha;simp at hlen;rw[m0j,decide_eq_true (idx ha hi hn),tft,c0w ha hi,c0w hb (by omega)];simp only[obs,sloEq];rw[w64 (x:=ix+1) (by omega) (by omega)];by_cases h:x=y
   ·subst h;simp only[decide_true,Bool.not_true,tff];rw[ih rb (pa++[x]) (pb++[x]) f (ix+1) len (idxl ha) (idxl hb) (by simp;omega) (by simpa using hr) (idxs hi) hn (by simp at hf;omega)];simp
   ·rw[if_neg (by simp[h])];simp only[decide_eq_false h,Bool.not_false,tft]
theorem k0y (n:Nat) (a b:List Slo) (hL:a.length≤9223372036854775807):i0s (n+1) a b=some (decide (a=b)):=by
 rw[b1v];by_cases h:a.length=b.length
 ·rw[decide_eq_true (show ((a.length:Nat):Int)=(b.length:Nat) by omega)];simp only[Bool.not_true,tff];rw[y0n n a b hL a b [] [] a0c 0 _ rfl rfl rfl h rfl rfl (by unfold a0c;omega)];by_cases h':a=b
  ·rw[if_pos h',decide_eq_true h'];rfl
  ·rw[if_neg h',decide_eq_false h'];rfl
 ·rw[decide_eq_false (show ¬((a.length:Nat):Int)=(b.length:Nat) by omega),decide_eq_false (fun k:a=b=>h (by rw[k]))];rfl
noncomputable instance decSer (a b:Ser):Decidable (a=b):=Classical.propDecidable _
structure SerM (s:Ser):Prop where
 l:s.1.length≤9223372036854775807
 r:s.2.2.1.2.2.length≤9223372036854775807
 a:s.2.2.2.1.1.length≤9223372036854775807
 b:s.2.2.2.1.2.1.length≤9223372036854775807
 d:s.2.2.2.1.2.2.length≤9223372036854775807
theorem d1r (n:Nat) (a b:Ser) (h:SerM a):g0k (n+3) a b=some (decide (a=b)):=by
 rw[g1g,y0e,u1g,p0n n _ _ h.l,a1d n _ _ h.r,k0y (n+1) _ _ h.a,k0y (n+1) _ _ h.b,k0y (n+1) _ _ h.d];obtain ⟨a1,a2,⟨r1,r2,r3⟩,⟨t1,t2,t3⟩,a5⟩:=a;obtain ⟨b1,b2,⟨q1,q2,q3⟩,⟨u1,u2,u3⟩,b5⟩:=b;simp only[obs,sloEq,tfd];by_cases h1:a1=b1
 case neg=>simp[h1]
 by_cases h2:a2=b2
 case neg=>simp[h1,h2]
 by_cases h3:r1=q1
 case neg=>simp[h1,h2,h3]
 by_cases h4:r2=q2
 case neg=>simp[h1,h2,h3,h4]
 by_cases h5:r3=q3
 case neg=>simp[h1,h2,h3,h4,h5]
 by_cases h6:t1=u1
 case neg=>simp[h1,h2,h3,h4,h5,h6]
 by_cases h7:t2=u2
 case neg=>simp[h1,h2,h3,h4,h5,h6,h7]
 by_cases h8:t3=u3
 case neg=>simp[h1,h2,h3,h4,h5,h6,h7,h8]
 by_cases h9:a5=b5
 case neg=>simp[h1,h2,h3,h4,h5,h6,h7,h8,h9]
 simp[h1,h2,h3,h4,h5,h6,h7,h8,h9]
def oldV (now w m:Int):Int×Int:=if OfP now w∧1≤m∧m≤4096 then (if 0<now / w+1-m then now / w+1-m else 0,0) else (0,1)
theorem o1l (n:Nat) (now w m:Int):f0t (n+4) now w m=some (oldV now w m):=by
 rw[o1o,wi_of n now w,o1m];unfold oldV;by_cases h:OfP now w
 case neg=>rw[if_neg h,if_neg (fun k=>h k.1)];rfl
 rw[if_pos h];have hq:=p1w h;simp only[obs,decide_true,Bool.not_true,tff];by_cases h1:1≤m
 case neg=>simp[h,h1]
 by_cases h2:m≤4096
 case neg=>simp[h,h1,h2]
 rw[w64 (x:=now / w+1) (by omega) (by omega),w64 (x:=now / w+1-m) (by omega) (by omega)];simp[h,h1,h2]
noncomputable def r1s (t now w m:Int):Bool:=decide (OfP t w∧(oldV now w m).2=0∧t / w<(oldV now w m).1)
theorem s1z (n:Nat) (t now w m:Int):d1a (n+5) t now w m=some (r1s t now w m):=by
 rw[y1z,wi_of (n+1) t w,o1l n now w m];unfold r1s;simp only[obs,tfd];by_cases h:OfP t w
 case neg=>rw[if_neg h,if_neg (by simp),decide_eq_false (fun k=>h k.1)]
 rw[if_pos h,if_pos rfl];by_cases h1:(oldV now w m).2=0
 ·rw[if_pos h1];exact congrArg some (decide_eq_decide.2 ⟨fun k=>⟨h,h1,k⟩,fun k=>k.2.2⟩)
 ·rw[if_neg h1,decide_eq_false (fun k=>h1 k.2.1)]
noncomputable def deadV (c:Conf) (last now:Int):Bool :=
 decide (OkC c)&&(r1s last now c.2.1.1 c.2.2.1.1&&(r1s last now c.2.1.2.1 c.2.2.1.2.1&&r1s last now c.2.1.2.2 c.2.2.1.2.2))
theorem t1z (n:Nat) (c:Conf) (last now:Int):v0m (n+6) c last now=some (deadV c last now):=by
 rw[g1h,a1f (n+2) c,s1z n,s1z n,s1z n];unfold deadV;by_cases h:OkC c
 case neg=>rw[if_neg h,decide_eq_false h];rfl
 rw[if_pos h,decide_eq_true h];simp only[obs,decide_true,tft,Bool.true_and];cases r1s last now c.2.1.1 c.2.2.1.1<;>cases r1s last now c.2.1.2.1 c.2.2.1.2.1<;>cases r1s last now c.2.1.2.2 c.2.2.1.2.2<;>rfl
abbrev Sta:=Conf×(Int×(Int×List Ser))
structure StaW (s:Sta):Prop where
 len:s.2.2.2.length≤9223372036854775807
 ser:∀x∈s.2.2.2,SerW x∧SerM x
def Whole (s:Sta):Prop:=OkC s.1∧(s.2.2.2.length:Int)=s.1.2.2.2.1
noncomputable instance (s):Decidable (Whole s):=Classical.propDecidable _
def LvX (s:Sta) (x:Ser):Prop:=x≠ser0∧(s.2.2.1 = -1∨deadV s.1 x.2.1 s.2.2.1=false)
noncomputable instance (s x):Decidable (LvX s x):=Classical.propDecidable _
def f1y (t:Int):Prop:=0≤t∧t<35184372088832
instance (t):Decidable (f1y t):=by unfold f1y;infer_instance
def Clock (s:Sta):Prop:=f1y s.2.1∧(s.2.2.1 = -1∨f1y s.2.2.1)∧s.2.2.1≤s.2.1
instance (s):Decidable (Clock s):=by unfold Clock;infer_instance
def mk (s:Sta):Int:=s.2.1 / s.1.2.1.1*s.1.2.1.1
def Twin (s:Sta) (i:Nat) (x:Ser):Prop:=LvX s x∧∃k,k<i∧∃y,s.2.2.2[k]? = some y∧LvX s y∧y.1=x.1
noncomputable instance (s i x):Decidable (Twin s i x):=Classical.propDecidable _
def r0t (s:Sta) (i:Nat) (x:Ser):Prop:=x=ser0∨(SerOk s.1 x∧0≤x.2.1∧x.2.1<mk s+s.1.2.1.1∧¬Twin s i x)
noncomputable instance (s i x):Decidable (r0t s i x):=Classical.propDecidable _
structure StaOk (s:Sta):Prop where
 whole:Whole s
 clock:Clock s
 right:∀(i:Nat) x,s.2.2.2[i]? = some x→r0t s i x
noncomputable instance (s):Decidable (StaOk s):=Classical.propDecidable _
theorem Whole.len {s:Sta} (h:Whole s):s.2.2.2.length≤65536:=by
 have:=h.1.rng.cap;have:=h.2;omega
theorem c1g {α:Type} {l:List α} {i:Nat} {x:α} (h:l[i]? = some x):at? l (i:Int)=some x:=by
 unfold at?;rw[decide_eq_true (show (0:Int)≤(i:Int) by omega),Int.toNat_natCast];exact h
theorem StaW.at {s:Sta} (h:StaW s) {i:Nat} {x:Ser} (hx:s.2.2.2[i]? = some x):SerW x∧SerM x:=h.ser x (List.mem_of_getElem? hx)
theorem ser0_m:SerM ser0:=⟨by simp[ser0],by simp[ser0,r0w],by simp[ser0],by simp[ser0],by simp[ser0]⟩
theorem w1s (n:Nat) {x:Ser} (h:SerM x):w0w (n+4) x=some (decide (x=ser0)):=by
 have:=d1r n x ser0 h;rw[p1h];have e:g0k (n+3) x ([],((0:Int),(((0:Int),((0:Int),[])),(([],([],[])),((0:Int),z0)))))=some (decide (x=ser0)):=this
 change a0b (g0k (n+3) x ([],((0:Int),(((0:Int),((0:Int),[])),(([],([],[])),((0:Int),z0)))))) _=_
 rw[e];rfl
theorem c1k (n:Nat) {s:Sta} {i:Nat} {x:Ser} (hx:s.2.2.2[i]? = some x) (hm:SerM x):f0w (n+7) s (i:Int)=some (decide (LvX s x)):=by
 rw[z0e,c1g hx,obs,w1s (n+2) hm,obs,tfn,tfd,t1z n];by_cases h:x=ser0
 ·rw[if_pos h,decide_eq_false (fun k:LvX s x=>k.1 h)]
 rw[if_neg h,tfd];by_cases h1:s.2.2.1 = -1
 ·rw[if_pos h1,decide_eq_true (show LvX s x from ⟨h,.inl h1⟩)]
 ·rw[if_neg h1];cases hd:deadV s.1 x.2.1 s.2.2.1
  ·rw[decide_eq_true (show LvX s x from ⟨h,.inr hd⟩)];rfl
  ·rw[decide_eq_false (fun k:LvX s x=>by rcases k.2 with k | k;exact h1 k;rw[hd] at k;cases k)];rfl
theorem place_l (n:Nat) (is:(Int×Unit)→Option Bool) (p:Nat→Bool) (L:Nat) (hL:L≤1000000) (his:∀k:Nat,k<L→is ((k:Int),())=some (p k)):∀(d k f:Nat),k+d=L→d<f →
  (∃m:Nat,k≤m∧m<L∧p m=true∧(∀j,k≤j→j<m→p j=false)∧c0y n f (is,(L:Int),(k:Int),())=some (.inr (m:Int))) ∨
  ((∀j,k≤j→j<L→p j=false)∧c0y n f (is,(L:Int),(k:Int),())=some (.inl ())):=by
 intro d;induction d with
 | zero =>
  intro k f hk hf;obtain ⟨f,rfl⟩:∃g,f=g+1:=⟨f-1,by omega⟩;refine .inr ⟨fun j h1 h2=>by omega,?_⟩;rw[l0f,decide_eq_false (by omega),tff]
 | succ d ih =>
  intro k f hk hf;obtain ⟨f,rfl⟩:∃g,f=g+1:=⟨f-1,by omega⟩;rw[l0f,decide_eq_true (by omega),tft,his k (by omega),obs];cases hp:p k
  ·rw[tff,w64 (by omega) (by omega),show ((k:Int)+1)=((k+1:Nat):Int) by omega];rcases ih (k+1) f (by omega) (by omega) with ⟨m,h1,h2,h3,h4,h5⟩ | ⟨h1,h2⟩
   ·exact .inl ⟨m,by omega,h2,h3,fun j q1 q2=>by
     rcases Nat.lt_or_ge k j with q | q
     ·exact h4 j (by omega) q2
     ·rw[show j=k by omega];exact hp,h5⟩
   ·exact .inr ⟨fun j q1 q2=>by
     rcases Nat.lt_or_ge k j with q | q
     ·exact h1 j (by omega) q2
     ·rw[show j=k by omega];exact hp,h2⟩
  ·rw[tft];exact .inl ⟨k,Nat.le_refl _,by omega,hp,fun j q1 q2=>by omega,rfl⟩
theorem f1d (n:Nat) (s:Sta) (is:(Int×Unit)→Option Bool) (p:Nat→Bool) (hL:s.2.2.2.length≤1000000) (his:∀k:Nat,k<s.2.2.2.length→is ((k:Int),())=some (p k)) :
  (∃m:Nat,m<s.2.2.2.length∧p m=true∧(∀j,j<m→p j=false)∧f0v (n+1) s is=some (m:Int)) ∨
  ((∀j,j<s.2.2.2.length→p j=false)∧f0v (n+1) s is=some (-1)):=by
 rw[z0d];rcases place_l n is p _ hL his s.2.2.2.length 0 a0c (by omega) (by unfold a0c;omega) with ⟨m,h1,h2,h3,h4,h5⟩ | ⟨h1,h2⟩
 ·refine .inl ⟨m,h2,h3,fun j q=>h4 j (by omega) q,?_⟩;have h5':c0y n a0c (is,(s.2.2.2.length:Int),(0:Int),())=some (.inr (m:Int)):=h5;rw[h5'];rfl
 ·refine .inr ⟨fun j q=>h1 j (by omega) q,?_⟩;have h2':c0y n a0c (is,(s.2.2.2.length:Int),(0:Int),())=some (.inl ()):=h2;rw[h2'];rfl
theorem z0z (n:Nat) (a b:List Lab) (h:a.length≤9223372036854775807):l0u (n+2) a b=some (decide (a=b)):=by
 rw[y0e,p0n n a b h];rfl
def IsTw (s:Sta) (i k:Nat) (x:Ser):Prop:=k=i∨∃y,s.2.2.2[k]? = some y∧LvX s y∧y.1=x.1
noncomputable instance (s i k x):Decidable (IsTw s i k x):=Classical.propDecidable _
theorem st_twin (n:Nat) {s:Sta} (hw:StaW s) (hL:s.2.2.2.length≤1000000) {i:Nat} {x:Ser} (hx:s.2.2.2[i]? = some x):q0a (n+9) s (i:Int)=some (decide (Twin s i x)):=by
 have hil:i<s.2.2.2.length:=(List.getElem?_eq_some_iff.1 hx).1;have hm:=(hw.at hx).2;rw[b1t];have his:∀k:Nat,k<s.2.2.2.length→(fun y0:Int×Unit=>g0i (n+8) y0.1 (i:Int) s) ((k:Int),())=some (decide (IsTw s i k x)):=by
  intro k hk;have hy:s.2.2.2[k]? = some s.2.2.2[k]:=List.getElem?_eq_getElem hk;generalize s.2.2.2[k]=y at hy;have hmy:=(hw.at hy).2;show g0i (n+8) (k:Int) (i:Int) s=_;rw[w0u,tfd,c1k n hy hmy,obs,c1g hy,obs,c1g hx,obs,z0z (n+5) _ _ hmy.l,obs,tfd];by_cases h1:k=i
  ·rw[if_pos (by rw[h1]),decide_eq_true (show IsTw s i k x from .inl h1)]
  rw[if_neg (by omega)];by_cases h2:LvX s y
  ·rw[if_pos h2];refine congrArg some (decide_eq_decide.2 ⟨fun h3 => .inr ⟨y,hy,h2,h3⟩,fun h3 => ?_⟩);rcases h3 with h3 | ⟨z,z1,z2,z3⟩
   ·exact absurd h3 h1
   ·rw[hy] at z1;cases z1;exact z3
  ·rw[if_neg h2,decide_eq_false];rintro (h3 | ⟨z,z1,z2,z3⟩)
   ·exact h1 h3
   ·rw[hy] at z1;cases z1;exact h2 z2
 rcases f1d (n+7) s (fun y0:Int×Unit=>g0i (n+8) y0.1 (i:Int) s) (fun k=>decide (IsTw s i k x)) hL his with ⟨m,h1,h2,h3,h4⟩ | ⟨h1,h2⟩
 ·rw[h4,obs,tfd,c1k (n+1) hx hm];have h2:=of_decide_eq_true h2;have hmi:m≤i:=by
   rcases Nat.lt_or_ge i m with q | q
   ·have:=of_decide_eq_false (h3 i q);exact absurd (.inl rfl) this
   ·exact q
  by_cases q:m<i
  ·rw[if_pos (by omega),obs];refine congrArg some (decide_eq_decide.2 ⟨fun k=>⟨k,m,q,?_⟩,fun k=>k.1⟩);exact h2.resolve_left (by omega)
  ·rw[if_neg (by omega),decide_eq_false];rintro ⟨k1,k,k2,k3⟩;exact of_decide_eq_false (h3 k (by omega)) (.inr k3)
 ·exact absurd (.inl rfl) (of_decide_eq_false (h1 i hil))
theorem m1h {s:Sta} (h:f1y s.2.1) (hw:1≤s.1.2.1.1∧s.1.2.1.1≤1099511627776):0≤mk s∧mk s≤s.2.1∧s.2.1<mk s+s.1.2.1.1∧s.2.1-s.2.1 % s.1.2.1.1=mk s:=by
 have e:=Int.mul_ediv_add_emod s.2.1 s.1.2.1.1;have e1:=Int.emod_nonneg s.2.1 (show s.1.2.1.1≠0 by omega);have e2:=Int.emod_lt_of_pos s.2.1 (show 0<s.1.2.1.1 by omega);rw[Int.mul_comm] at e;have e3:0≤mk s:=Int.mul_nonneg (Int.ediv_nonneg h.1 (by omega)) (by omega);unfold mk at *
 exact ⟨e3,by omega,by omega,by omega⟩
theorem st_mark (n:Nat) {s:Sta} (h:f1y s.2.1) (hw:1≤s.1.2.1.1∧s.1.2.1.1≤1099511627776):q0b (n+1) s=some (mk s):=by
 have:=m1h h hw;have:=h.1;have:=h.2;rw[b1u,tfd,if_neg (by omega),s0d h.1,w64 (by omega) (by omega),(m1h h hw).2.2.2]
theorem st_right (n:Nat) {s:Sta} (hw:StaW s) (hh:Whole s) (ht:f1y s.2.1) {i:Nat} {x:Ser} (hx:s.2.2.2[i]? = some x):o0e (n+12) s (i:Int)=some (decide (r0t s i x)):=by
 have hm:=hw.at hx;have hr:=hh.1.rng;have hL:=hh.len;have hmk:=m1h ht hr.w0;have ht1:=ht.1;have ht2:=ht.2;have hw0:=hr.w0;obtain ⟨m1,m2,m3,m4⟩:=hmk;rw[z0c,c1g hx,obs,w1s (n+7) hm.2,obs,tfd,a1y n s.1 hm.1,obs,st_mark (n+10) ht hr.w0,obs,w64 (by omega) (by omega),st_twin (n+2) hw (by omega) hx,obs];simp only[tfd];by_cases h0:x=ser0
 ·rw[if_pos h0,decide_eq_true (show r0t s i x from .inl h0)]
 rw[if_neg h0];by_cases h1:SerOk s.1 x
 case neg=>rw[if_neg h1,if_neg (by decide),decide_eq_false (fun q:r0t s i x=>by rcases q with k | k;exact h0 k;exact h1 k.1)]
 rw[if_pos h1,if_pos rfl];by_cases h2:0≤x.2.1
 case neg=>rw[if_neg h2,decide_eq_false (fun q:r0t s i x=>by rcases q with k | k;exact h0 k;exact h2 k.2.1)]
 rw[if_pos h2];by_cases h3:x.2.1<mk s+s.1.2.1.1
 case neg=>rw[if_neg h3,decide_eq_false (fun q:r0t s i x=>by rcases q with k | k;exact h0 k;exact h3 k.2.2.1)]
 rw[if_pos h3];by_cases h4:Twin s i x
 ·rw[decide_eq_true h4,decide_eq_false (fun q:r0t s i x=>by rcases q with k | k;exact h0 k;exact k.2.2.2 h4)];rfl
 ·rw[decide_eq_false h4,decide_eq_true (show r0t s i x from .inr ⟨h1,h2,h3,h4⟩)];rfl
def sta0:Sta:=(((0:Int),(((0:Int),((0:Int),(0:Int))),(((0:Int),((0:Int),(0:Int))),((0:Int),(0:Int))))),((0:Int),((0:Int),[])))
theorem t1q (n:Nat) (s:Sta):w0v (n+4) s=some (if Whole s then (s,0) else (sta0,2)):=by
 rw[t1n,a1f n s.1,obs,tfn,tfd,tfn,tfd];by_cases h:OkC s.1
 case neg=>rw[if_neg h,if_neg (show ¬((2:Int)=0) by decide),if_neg (fun k:Whole s=>h k.1)];rfl
 rw[if_pos h,if_pos rfl];by_cases h1:(s.2.2.2.length:Int)=s.1.2.2.2.1
 ·rw[if_pos h1,if_pos (show Whole s from ⟨h,h1⟩)]
 ·rw[if_neg h1,if_neg (fun k:Whole s=>h1 k.2)];rfl
theorem d2x (n:Nat) (t:Int):c1j (n+1) t=some (decide (f1y t)):=by
 rw[t1m,tfd];by_cases h:0≤t
 ·rw[if_pos h];exact congrArg some (decide_eq_decide.2 ⟨fun k=>⟨h,k⟩,fun k=>k.2⟩)
 ·rw[if_neg h,decide_eq_false (fun k:f1y t=>h k.1)]
theorem st_clock (n:Nat) (s:Sta):o0f (n+2) s=some (decide (Clock s)):=by
 rw[z0f,d2x n,d2x n,obs,obs];simp only[tfd];by_cases h:f1y s.2.1
 case neg=>rw[if_neg h,decide_eq_false (fun k:Clock s=>h k.1)]
 rw[if_pos h];by_cases h1:s.2.2.1 = -1
 ·rw[if_pos h1];exact congrArg some (decide_eq_decide.2 ⟨fun k=>⟨h,.inl h1,k⟩,fun k=>k.2.2⟩)
 rw[if_neg h1];by_cases h2:f1y s.2.2.1
 ·rw[if_pos h2];exact congrArg some (decide_eq_decide.2 ⟨fun k=>⟨h,.inr h2,k⟩,fun k=>k.2.2⟩)
 ·rw[if_neg h2,decide_eq_false (fun k:Clock s=>by rcases k.2.1 with q | q;exact h1 q;exact h2 q)]
def Wrong (s:Sta) (k:Nat):Prop:=∃x,s.2.2.2[k]? = some x∧¬r0t s k x
noncomputable instance (s k):Decidable (Wrong s k):=Classical.propDecidable _
theorem m0g (n:Nat) {s:Sta} (hw:StaW s):i0n (n+14) s=some (if StaOk s then 0 else 2):=by
 rw[p1i,t1q (n+9) s,obs,tfn,tfd];by_cases h:Whole s
 case neg=>rw[if_neg h,if_neg (show ¬((sta0,(2:Int)).2=0) by decide),if_neg (fun k:StaOk s=>h k.whole)]
 rw[if_pos h,if_pos rfl,st_clock (n+11) s,obs,tfn,tfd];by_cases h1:Clock s
 case neg=>rw[if_neg h1,if_neg (fun k:StaOk s=>h1 k.clock)]
 rw[if_pos h1];have hL:=h.len;have his:∀k:Nat,k<s.2.2.2.length→(fun y2:Int×Unit=>f0o (n+13) y2.1 s) ((k:Int),())=some (decide (Wrong s k)):=by
  intro k hk;have hy:s.2.2.2[k]? = some s.2.2.2[k]:=List.getElem?_eq_getElem hk;generalize s.2.2.2[k]=y at hy;show f0o (n+13) (k:Int) s=_;rw[g1e,st_right n hw h h1.1 hy,obs];by_cases q:r0t s k y
  ·rw[decide_eq_true q,decide_eq_false (fun z:Wrong s k=>by obtain ⟨x,x1,x2⟩:=z;rw[hy] at x1;cases x1;exact x2 q)];rfl
  ·rw[decide_eq_false q,decide_eq_true (show Wrong s k from ⟨y,hy,q⟩)];rfl
 rcases f1d (n+12) s (fun y2:Int×Unit=>f0o (n+13) y2.1 s) (fun k=>decide (Wrong s k)) (by omega) his with ⟨m,q1,q2,q3,q4⟩ | ⟨q1,q2⟩
 ·rw[show (fun y2:Int×Unit=>f0o (n+13) y2.1 (s,(0:Int)).1)=fun y2:Int×Unit=>f0o (n+13) y2.1 s from rfl];obtain ⟨x,x1,x2⟩:=of_decide_eq_true q2;rw[q4,obs,tfd,if_pos (by omega),if_neg (fun k:StaOk s=>x2 (k.right m x x1))]
 ·rw[show (fun y2:Int×Unit=>f0o (n+13) y2.1 (s,(0:Int)).1)=fun y2:Int×Unit=>f0o (n+13) y2.1 s from rfl];rw[q2,obs,tfd,if_neg (by decide),if_pos];refine ⟨h,h1,fun i x hx => ?_⟩;have:=of_decide_eq_false (q1 i (List.getElem?_eq_some_iff.1 hx).1);exact Decidable.byContradiction fun k=>this ⟨x,hx,k⟩
def cutB {α:Type} (m:Nat) (f:α→List UInt8) (l:List α):List (List UInt8):=(g0q l.length m l).map fun p=>padB (p.flatMap f) 512
theorem n1o {α:Type} {m:Nat} {f:α→List UInt8} {l:List α}:(cutB m f l).length=(g0q l.length m l).length:=by simp[cutB]
theorem u0e {α:Type} {m:Nat} (hm:1≤m) (xs:List α):(g0q xs.length m xs).length≤xs.length:=by
 apply Nat.le_of_not_lt;intro h;have:=(l0y hm xs xs.length).1 h;have:xs.length*1≤xs.length*m:=Nat.mul_le_mul_left _ hm;omega
theorem f1k {α:Type} {m:Nat} (hm:1≤m) {xs:List α} {p:List α} (h:p∈g0q xs.length m xs):p.length≤m∧∀x∈p,x∈xs:=by
 obtain ⟨k,hk⟩:=List.getElem?_of_mem h;rw[n0f hm _ _ (Nat.le_refl _)] at hk;split at hk
 ·injection hk with hk;subst hk;exact ⟨by rw[List.length_take];omega,fun x hx=>List.mem_of_mem_drop (List.mem_of_mem_take hx)⟩
 ·cases hk
theorem x1z {α:Type} {w:Nat} {f:α→List UInt8}:∀l:List α,(∀x∈l,(f x).length=w)→(l.flatMap f).length=l.length*w
 | [],_=>by simp
 | x::l,h=>by
  rw[List.flatMap_cons,List.length_append,h x List.mem_cons_self,x1z l fun y hy=>h y (List.mem_cons_of_mem _ hy),List.length_cons,Nat.add_mul];omega
theorem s1k {α:Type} (xs:List α) (m:Nat) (hm:1≤m) (hx:xs.length+m≤1000000000):k0u xs (m:Int)=some ((g0q xs.length m xs).map fun l=>(l,())):=by
 unfold k0u;rw[show (decide (1≤(m:Int))&&decide ((xs.length:Int)+(m:Int)≤4611686018427387904))=true by rw[Bool.and_eq_true,decide_eq_true_eq,decide_eq_true_eq];omega,tft,Int.toNat_natCast]
theorem s0u (n:Nat) (s:List UInt8) (k:Nat) (hs:s.length≤1000000000) (hk:k≤8000):g0m (n+5) s (k:Int)=some (padB s k):=by
 rw[r1n,w64 (by omega) (by omega)];have e:(if (k:Int)-((s.length:Nat):Int)<0 then (0:Int) else (k:Int)-((s.length:Nat):Int))=((k-s.length:Nat):Int):=by split<;>omega
 rw[e,rep_val n (k-s.length) (by omega),obs,tfd,if_pos (by simp;omega)];rfl
theorem h2g (n:Nat) (e:Ev):r0d (n+6) e=some (v0c e):=by
 have hl:=p0c e;rw[h1j,d1p (n+2) [] e (by simp),obs,e1m (n+4),obs,List.nil_append];dsimp only;rw[show ((32:Int))=((32:Nat):Int) from rfl,s0u n _ 32 (by rw[j0i];omega) (by omega),obs];rfl
theorem w1t (n:Nat) (s:Slo):j0v (n+6) s=some (o0h s):=by
 have e1:=p0c s.2.2.1;have e2:=p0c s.2.2.2.1;have hl:=w1u s;have h1:∀x y:Int,[x,y].flatMap n8I=n8I x++n8I y:=fun x y=>by simp
 have h5:∀a b x y z:Int,[IntKind.wrap .i64 a,IntKind.wrap .i64 b,x,y,z].flatMap n8I=n8I a++(n8I b++(n8I x++(n8I y++n8I z))):=fun a b x y z=>by simp[f2i]
 have l1:∀x y:Int,(n8I x++n8I y).length=16:=fun x y=>by simp[v0r]
 rw[m1t,x0x (n+3) [] _ (by simp) (by simp),obs,h1,List.nil_append,d1p (n+2) _ _ (by rw[l1];omega),obs,d1p (n+2) _ _ (by rw[List.length_append,l1];omega),obs,
  x0x (n+3) _ _ (by simp) (by rw[List.length_append,List.length_append,l1,e1,e2];simp),obs,h5,e1m (n+4),obs]
 dsimp only;have es:n8I s.1++n8I s.2.1++x0g s.2.2.1++x0g s.2.2.2.1++(n8I s.2.2.2.2.1.1++(n8I s.2.2.2.2.1.2++(n8I s.2.2.2.2.2.1++(n8I s.2.2.2.2.2.2.1++n8I s.2.2.2.2.2.2.2))))=sloI s:=by
  unfold sloI;simp only[List.append_assoc]
 rw[es,show ((128:Int))=((128:Nat):Int) from rfl,s0u n _ 128 (by rw[j0i];omega) (by omega),obs];rfl
theorem w1a (n:Nat) (g:Ev→List UInt8) (bytes:(Ev×Unit)→Option (List UInt8)) (hb:∀x,bytes (x,())=some (g x)) (hg:∀x,(g x).length≤512) (out:List (List UInt8)) (l:List Ev) (hl:l.length≤100000):∀(rest pre:List Ev) (f:Nat) (b:List UInt8) (i:Int),l=pre++rest→i=pre.length→b.length+512*rest.length≤1000000000 →
  g0d (n+1) (f+rest.length+1) (out,bytes,b,l,(l.length:Int),i,())=some (.inl (out,bytes,b++rest.flatMap g,())):=by
 intro rest;induction rest with
 | nil =>
  intro pre f b i h hi hw;rw[k0t];simp only[tfd,if_neg (idxe h hi rfl)];simp
 | cons a rest ih =>
  intro pre f b i h hi hw;have hlen:=congrArg List.length h;simp at hlen hw;have ha:=hg a;rw[show f+(a::rest).length+1=(f+rest.length+1)+1 by simp;omega,k0t];simp only[tfd,if_pos (idx h hi rfl)];rw[c0w h hi,obs,hb,obs,wst n b (g a) (by omega),obs];dsimp only;rw[w64 (x:=i+1) (by omega) (by omega),ih (pre++[a]) f _ (i+1) (idxl h) (idxs hi) (by simp;omega)];simp
theorem v1z (n:Nat) (g:Ev→List UInt8) (bytes:(Ev×Unit)→Option (List UInt8)) (hb:∀x,bytes (x,())=some (g x)) (hg:∀x,(g x).length≤512):∀(P:List (List Ev)) (out:List (List UInt8)),(∀p∈P,p.length≤1000)→out.length+P.length≤1000000 →
  e0t (n+5) (P.map fun p=>(p,())) (out,bytes,())=some (out++P.map (fun p=>padB (p.flatMap g) 512),bytes,()):=by
 intro P;induction P with
 | nil=>intro out _ _;rw[List.map_nil,r0v];simp
 | cons p P ih =>
  intro out hp ho;simp only[List.length_cons] at ho;have h1:=hp p List.mem_cons_self;have:=w1a (n+4) g bytes hb hg out p (by omega) p [] (a0c-p.length-1) [] 0 rfl rfl (by simp;omega);rw[←lfu (by omega)] at this;have hfl:(p.flatMap g).length≤1000000:=by
   have key:∀q:List Ev,(q.flatMap g).length≤512*q.length:=by
    intro q;induction q with
    | nil=>simp
    | cons x q ih=>have:=hg x;rw[List.flatMap_cons,List.length_append,List.length_cons];omega
   have:=key p;omega
  rw[List.map_cons,r0c];dsimp only;rw[this,obs,a0r];dsimp only;rw[d0e,obs,List.nil_append];dsimp only;rw[show ((512:Int))=((512:Nat):Int) from rfl,s0u n _ 512 (by omega) (by omega),obs,tfd,if_pos (by omega),obs,ih (out++[padB (p.flatMap g) 512]) (fun q hq=>hp q (List.mem_cons_of_mem _ hq)) (by simp;omega)];simp
theorem s1d (n:Nat) (g:Ev→List UInt8) (bytes:(Ev×Unit)→Option (List UInt8)) (hb:∀x,bytes (x,())=some (g x)) (hg:∀x,(g x).length≤512) (out:List (List UInt8)) (l:List Ev) (m:Nat) (hm:1≤m) (hm':m≤1000) (hl:l.length≤100000) (ho:out.length≤100000) :
  m0t (n+6) out l (m:Int) bytes=some (out++cutB m g l):=by
 have hc:=u0e hm l;rw[y0k,z0i,s1k l m hm (by omega),obs,v1z n g bytes hb hg _ out (fun p hp=>by have:=(f1k hm hp).1;omega) (by omega),obs];rfl
theorem c2d (n:Nat) (g:Slo→List UInt8) (bytes:(Slo×Unit)→Option (List UInt8)) (hb:∀x,bytes (x,())=some (g x)) (hg:∀x,(g x).length≤512) (out:List (List UInt8)) (l:List Slo) (hl:l.length≤100000):∀(rest pre:List Slo) (f:Nat) (b:List UInt8) (i:Int),l=pre++rest→i=pre.length→b.length+512*rest.length≤1000000000 →
  g0z (n+1) (f+rest.length+1) (out,bytes,b,l,(l.length:Int),i,())=some (.inl (out,bytes,b++rest.flatMap g,())):=by
 intro rest;induction rest with
 | nil =>
  intro pre f b i h hi hw;rw[l0l];simp only[tfd,if_neg (idxe h hi rfl)];simp
 | cons a rest ih =>
  intro pre f b i h hi hw;have hlen:=congrArg List.length h;simp at hlen hw;have ha:=hg a;rw[show f+(a::rest).length+1=(f+rest.length+1)+1 by simp;omega,l0l];simp only[tfd,if_pos (idx h hi rfl)];rw[c0w h hi,obs,hb,obs,wst n b (g a) (by omega),obs];dsimp only;rw[w64 (x:=i+1) (by omega) (by omega),ih (pre++[a]) f _ (i+1) (idxl h) (idxs hi) (by simp;omega)];simp
theorem c2c (n:Nat) (g:Slo→List UInt8) (bytes:(Slo×Unit)→Option (List UInt8)) (hb:∀x,bytes (x,())=some (g x)) (hg:∀x,(g x).length≤512):∀(P:List (List Slo)) (out:List (List UInt8)),(∀p∈P,p.length≤1000)→out.length+P.length≤1000000 →
  f0h (n+5) (P.map fun p=>(p,())) (out,bytes,())=some (out++P.map (fun p=>padB (p.flatMap g) 512),bytes,()):=by
 intro P;induction P with
 | nil=>intro out _ _;rw[List.map_nil,t0f];simp
 | cons p P ih =>
  intro out hp ho;simp only[List.length_cons] at ho;have h1:=hp p List.mem_cons_self;have:=c2d (n+4) g bytes hb hg out p (by omega) p [] (a0c-p.length-1) [] 0 rfl rfl (by simp;omega);rw[←lfu (by omega)] at this;have hfl:(p.flatMap g).length≤1000000:=by
   have key:∀q:List Slo,(q.flatMap g).length≤512*q.length:=by
    intro q;induction q with
    | nil=>simp
    | cons x q ih=>have:=hg x;rw[List.flatMap_cons,List.length_append,List.length_cons];omega
   have:=key p;omega
  rw[List.map_cons,r0u];dsimp only;rw[this,obs,a0r];dsimp only;rw[d0e,obs,List.nil_append];dsimp only;rw[show ((512:Int))=((512:Nat):Int) from rfl,s0u n _ 512 (by omega) (by omega),obs,tfd,if_pos (by omega),obs,ih (out++[padB (p.flatMap g) 512]) (fun q hq=>hp q (List.mem_cons_of_mem _ hq)) (by simp;omega)];simp
theorem v1y (n:Nat) (g:Slo→List UInt8) (bytes:(Slo×Unit)→Option (List UInt8)) (hb:∀x,bytes (x,())=some (g x)) (hg:∀x,(g x).length≤512) (out:List (List UInt8)) (l:List Slo) (m:Nat) (hm:1≤m) (hm':m≤1000) (hl:l.length≤100000) (ho:out.length≤100000) :
  i0b (n+6) out l (m:Int) bytes=some (out++cutB m g l):=by
 have hc:=u0e hm l;rw[a1b,b1x,s1k l m hm (by omega),obs,c2c n g bytes hb hg _ out (fun p hp=>by have:=(f1k hm hp).1;omega) (by omega),obs];rfl
def i1v (lost room:Nat):Nat→List Ev→List Ev→List Ev
 | _,[],out=>out
 | k,e::L,out=>i1v lost room (k+1) L (out.set ((lost+k) % room) e)
def x0k (r:Rw) (room:Int):List Ev:=i1v r.1.toNat room.toNat 0 r.2.2 (List.replicate room.toNat e0)
theorem i1u (lost room:Nat):∀(L:List Ev) (k:Nat) (out:List Ev),(i1v lost room k L out).length=out.length
 | [],_,_=>rfl
 | e::L,k,out=>by rw[i1v,i1u lost room L];simp
theorem round_l3 (n:Nat) (room:Int) (r:Rw) (h1:1≤room) (h2:room≤4096) (h3:0≤r.1) (h4:r.1≤70368744177664) (hL:r.2.2.length≤100000):∀(rest pre:List Ev) (f:Nat) (out:List Ev) (i:Int),r.2.2=pre++rest→i=pre.length→(out.length:Int)=room →
  k0e n (f+rest.length+1) (room,r,out,r.2.2,(r.2.2.length:Int),i,())=some (.inl (i1v r.1.toNat room.toNat pre.length rest out,())):=by
 intro rest;induction rest with
 | nil =>
  intro pre f out i h hi ho;rw[p0l];simp only[tfd,if_neg (idxe h hi rfl)];rfl
 | cons a rest ih =>
  intro pre f out i h hi ho;have hlen:=congrArg List.length h;simp at hlen;have hpos:Int.tmod (IntKind.wrap .i64 (r.1+i)) room=(((r.1.toNat+pre.length) % room.toNat:Nat):Int):=by
   rw[w64 (by omega) (by omega),Int.tmod_eq_emod_of_nonneg (by omega),Int.natCast_emod,hi,Int.natCast_add,Int.toNat_of_nonneg h3,Int.toNat_of_nonneg (by omega)]
  have hlt:(r.1.toNat+pre.length) % room.toNat<out.length:=by
   have:=Nat.mod_lt (r.1.toNat+pre.length) (show 0<room.toNat by omega);omega
  rw[show f+(a::rest).length+1=(f+rest.length+1)+1 by simp;omega,p0l];simp only[tfd,if_pos (idx h hi rfl)];rw[c0w h hi,obs,if_neg (by omega),hpos,Int.toNat_natCast,c1g (List.getElem?_eq_getElem hlt),obs,List.getElem?_eq_getElem hlt,obs,w64 (x:=i+1) (by omega) (by omega),
   ih (pre++[a]) f _ (i+1) (idxl h) (idxs hi) (by simpa using ho)]
  simp[i1v]
theorem e2j (n:Nat) {r:Rw} {room:Int} (h:RawOk r room):v0y (n+1) r room=some (x0k r room):=by
 have h1:=h.m0;have h2:=h.m1;have h3:=h.len;rw[g1y];have c1:(decide ((0:Int)≤room)&&(decide (room≤room)&&decide (room*(32:Int)≤(140737488355328:Int))))=true:=by
  rw[Bool.and_eq_true,Bool.and_eq_true,decide_eq_true_eq,decide_eq_true_eq,decide_eq_true_eq];omega
 have:=round_l3 n room r h1 h2 h.l0 h.l1 (by omega) r.2.2 [] (a0c-r.2.2.length-1) (List.replicate room.toNat e0) 0 rfl rfl (by simp;omega);rw[←lfu (by omega)] at this;rw[c1,tft];have e:List.replicate (Int.toNat room) ((0:Int),((0:Int),((0:Int),false)))=List.replicate room.toNat e0:=rfl;rw[e,this,obs,a0r];rfl
theorem k1f {n:Nat} (h:n<128):(uvB n).length=1:=by rw[o1q h];rfl
theorem uvB_two {n:Nat} (h:n<16384):(uvB n).length≤2:=by
 by_cases h1:n<128
 ·rw[k1f h1];omega
 ·rw[w1n h1,List.length_cons,k1f (by omega)];omega
theorem f2z:∀(l:List Lab),(∀x∈l,x.1.length≤64∧x.2.length≤128)→((l.flatMap fun x=>txB x.1++txB x.2).length:Int)≤3*(l.length:Int)+sumL l
 | [],_=>by simp[sumL]
 | x::l,h=>by
  have ih:=f2z l fun y hy=>h y (List.mem_cons_of_mem _ hy)
  obtain ⟨h1,h2⟩:=h x List.mem_cons_self;have e1:=k1f (n:=x.1.length) (by omega);have e2:=uvB_two (n:=x.2.length) (by omega);rw[d1j,List.flatMap_cons];simp only[txB,List.length_append,List.length_cons] at ih ⊢;omega
theorem v1d {l:List Lab} (h:LabOk l):(labB l).length≤320:=by
 have h1:=f2z l (y1h l none h.c);have h2:=h.n1;have h3:=h.t;have e1:=k1f (n:=l.length) (by omega);have h4:(labB l).length=1+(l.flatMap fun x=>txB x.1++txB x.2).length:=by unfold labB;rw[List.length_append,e1]
 omega
end Go.Proofs.YtagnkfbpgkckiaaGreatDoor
namespace Go.Proofs.YtagnkfbpgkckiaaGreatDoor
open Go.Flat
def idxC (c:Conf):Int:=prt c.2.2.2.2 120
def hom (c:Conf):Int:=1+idxC c+c.2.2.2.2
end Go.Proofs.YtagnkfbpgkckiaaGreatDoor
namespace Go.Proofs.YtagnkfbpgkckiaaGreatDoor
open Go.Flat
set_option linter.unusedVariables false
set_option linter.unusedSimpArgs false
theorem j2k (n:Nat) {c:Conf} (h:OkC c):a1g (n+4) c=some (plc c):=by
 rw[n1v,c1s n h,e1a (n+1) h.rng];simp only[obs,tfd,tfn];rw[if_pos trivial]
end Go.Proofs.YtagnkfbpgkckiaaGreatDoor
namespace Go.Proofs.YtagnkfbpgkckiaaGreatDoor
open Go.Flat Go.Plim
set_option linter.unusedVariables false
set_option linter.unusedSimpArgs false
theorem z1p (n:Nat) (l:List Ser) (hL:l.length≤1000000) (hm:∀x∈l,SerM x):∀(rest pre:List Ser) (f:Nat) (ix len:Int),l=pre++rest→ix=pre.length→len=l.length→rest.length<f →
  k0q (n+2) f (l,len,ix,())=some (.inl ())∨k0q (n+2) f (l,len,ix,())=some (.inr 0):=by
 intro rest;induction rest with
 | nil =>
  intro pre f ix len hl hi hn hf;obtain ⟨f,rfl⟩:∃g,f=g+1:=⟨f-1,by simp at hf;omega⟩;left;rw[t0b];simp only[tfd,if_neg (idxe hl hi hn)]
 | cons x rest ih =>
  intro pre f ix len hl hi hn hf;obtain ⟨f,rfl⟩:∃g,f=g+1:=⟨f-1,by simp at hf;omega⟩;have hx:SerM x:=hm x (by rw[hl];simp);rw[t0b];simp only[tfd,if_pos (idx hl hi hn),c0w hl hi,obs,idxw hl hi (show l.length≤1000000000000 by omega)];rcases g2b n x hx.l with h | h
  ·rw[h];right;rfl
  ·rw[h];simp only[obs,if_neg (show ¬((1:Int)=0) by decide)];exact ih (pre++[x]) f (ix+1) len (idxl hl) (idxs hi) hn (by simp at hf;omega)
theorem g2a (n:Nat) {s:Sta} (hw:StaW s):y0f (n+3) s=some 0∨(y0f (n+3) s=some 1∧s.2.2.2.length≤8):=by
 rw[r1d];simp only[tfd];by_cases h:(8:Int)<(s.2.2.2.length:Int)
 ·rw[if_pos h];exact .inl rfl
 ·rw[if_neg h];rcases z1p n s.2.2.2 (by omega) (fun x hx=>(hw.ser x hx).2) s.2.2.2 [] a0c 0 _ rfl rfl rfl (by unfold a0c;omega) with h1 | h1
  ·rw[h1];exact .inr ⟨rfl,by omega⟩
  ·rw[h1];exact .inl rfl
theorem ser_m' {s:Ser} (h:Wf a0x s):SerM s:=by
 obtain ⟨h1,h2,h3,⟨h4,h5,h6⟩,h7⟩:=h;have e1:=h1.1;have e3:=h3.2.2.1;have e4:=h4.1;have e5:=h5.1;have e6:=h6.1;simp only[maxLen] at e1 e3 e4 e5 e6;exact ⟨e1,e3,e4,e5,e6⟩
theorem sta_wf {s:Sta} (h:Wf a0n s):StaW s:=by
 obtain ⟨h1,h2,h3,h4⟩:=h;have e:=h4.1;simp only[maxLen] at e;exact ⟨e,fun x hx=>⟨ser_wf (h4.2 x hx),ser_m' (h4.2 x hx)⟩⟩
def r1w (x:Ser):List UInt8 :=
 toB (beI 2 ((labB x.1).length:Int))++(padB (labB x.1) 320++(n8B x.2.1++(n8B x.2.2.1.1++(n8B x.2.2.1.2.1++(toB (beI 2 (x.2.2.1.2.2.length:Int))++o0h x.2.2.2.2)))))
def j1q (x:Ser):List UInt8:=padB (r1w x) 512
def zsec:List UInt8:=List.replicate 512 0
noncomputable def r0p (c:Conf) (x:Ser):List (List UInt8) :=
 if x=ser0 then List.replicate (plc c).toNat zsec
 else j1q x::(cutB 16 v0c (x0k x.2.2.1 c.1)++(cutB 4 o0h x.2.2.2.1.1++(cutB 4 o0h x.2.2.2.1.2.1++cutB 4 o0h x.2.2.2.1.2.2)))
def x1j:List UInt8:=[112,108,105,109,115,111,108,108]
def p1f (s:Sta):List UInt8:=x1j++(toB (bts s.1)++(n8B s.2.1++n8B (s.2.2.1+1)))
def p1g (s:Sta):List UInt8:=padB (p1f s) 512
noncomputable def allB (s:Sta):List (List UInt8):=p1g s::s.2.2.2.flatMap (r0p s.1)
theorem beI2_len (x:Int):(toB (beI 2 x)).length=2:=by simp[j0i,d0k]
theorem j1p {x:Ser} (h:(labB x.1).length≤320):(r1w x).length=476:=by
 have e1:=q0u (labB x.1) 320;have e2:=o0x x.2.2.2.2;unfold r1w;simp only[List.length_append,beI2_len,f2j,e1,e2];omega
theorem b2q {x:Ser} (h:(labB x.1).length≤320):(j1q x).length=512:=by rw[j1q,q0u,j1p h];rfl
theorem d1e (c:Conf):(toB (bts c)).length=56:=by rw[j0i,c2n]
theorem i1h (s:Sta):(p1f s).length=80:=by
 unfold p1f x1j;simp only[List.length_append,d1e,f2j];rfl
theorem z1i (s:Sta):(p1g s).length=512:=by rw[p1g,q0u,i1h];rfl
theorem hd_val (n:Nat) {x:Ser} (hl:LabOk x.1) (hr:x.2.2.1.2.2.length≤4096):v0z (n+8) x=some (j1q x,0):=by
 have hlab:=v1d hl;have h2:∀v:Int,(beI 2 v).length=2:=fun v=>by simp[d0k]
 have e1:=q0u (labB x.1) 320;rw[g1z,v1c n x.1,if_pos hl,obs];dsimp only;rw[wu64 (by omega) (by omega),c0f (n+6) [] 2 2 _ rfl (by omega) (by omega) (by simp),obs,List.nil_append,
  show ((320:Int))=((320:Nat):Int) from rfl,s0u (n+2) _ 320 (by omega) (by omega),obs,l1i (n+6) (by rw[h2];omega),obs,
  x0x (n+5) _ _ (by simp) (by simp[h2,j0y];omega),obs,wu64 (by omega) (by omega),c0f (n+6) _ 2 2 _ rfl (by omega) (by omega) (by simp[h2,j0y,v0r];omega),obs,
  w1t (n+1),obs,l1i (n+6) (by simp[h2,j0y,v0r,o0x];omega),obs,e1m (n+6),obs]
 dsimp only;have e:toB (beI 2 ((labB x.1).length:Int)++h0m (padB (labB x.1) 320)++List.flatMap n8I [x.2.1,x.2.2.1.1,x.2.2.1.2.1]++beI 2 (x.2.2.1.2.2.length:Int)++h0m (o0h x.2.2.2.2))=r1w x:=by
  unfold r1w n8B;simp only[d2g,y0z,List.flatMap_cons,List.flatMap_nil,List.append_nil,List.append_assoc]
 rw[e,show ((512:Int))=((512:Nat):Int) from rfl,s0u (n+2) _ 512 (by rw[j1p hlab];omega) (by omega),obs];rfl
theorem h2t (n:Nat) {x:Ser} (h:SerM x):w0a (n+4) x=some (decide (x=ser0)):=by
 have:=d1r n x ser0 h;rw[h1e];have e:g0k (n+3) x ([],((0:Int),(((0:Int),((0:Int),[])),(([],([],[])),((0:Int),z0)))))=some (decide (x=ser0)):=this
 change a0b (g0k (n+3) x ([],((0:Int),(((0:Int),((0:Int),[])),(([],([],[])),((0:Int),z0)))))) _=_
 rw[e];rfl
theorem d2k {c:Conf} {x:Ser} (h:SerOk c x):x.2.2.2.1.1.length≤4096∧x.2.2.2.1.2.1.length≤4096∧x.2.2.2.1.2.2.length≤4096:=⟨h.fold.t0.l1,h.fold.t1.l1,h.fold.t2.l1⟩
theorem l1g {r:Rw} {room:Int} (h:RawOk r room):(x0k r room).length=room.toNat∧room.toNat≤4096:=⟨by unfold x0k;rw[i1u];simp,by have:=h.m1;omega⟩
theorem e2t (n:Nat) {c:Conf} {x:Ser} (hc:OkC c) (hw:SerW x) (hm:SerM x):w0c (n+12) c x=some (if x=ser0∨SerOk c x then (r0p c x,0) else ([],2)):=by
 have hr:=hc.rng;have hp:=q1a hr;rw[h1h,c1s (n+8) hc,obs,decide_eq_true (rfl:(0:Int)=0),Bool.not_true,tff,h2t (n+7) hm,obs,tfd];by_cases h0:x=ser0
 ·rw[if_pos h0,if_pos (.inl h0),show ((512:Int))=((512:Nat):Int) from rfl,s0u (n+6) [] 512 (by simp) (by omega),obs,j2k (n+7) hc,obs,
   show plc c=(((plc c).toNat:Nat):Int) by omega,u1f (n+8) _ (plc c).toNat (by omega) (by omega),obs]
  unfold r0p;rw[if_pos h0];rfl
 rw[if_neg h0,a1y n c hw,obs];by_cases hs:SerOk c x
 ·have ht:=d2k hs;have hrd:=l1g hs.raw;have hln:=hs.raw.len;have hlab:=v1d hs.lab;have hch:∀ {α:Type} (m:Nat) (f:α→List UInt8) (l:List α),1≤m→l.length≤4096→(cutB m f l).length≤4096:=fun m f l hm hl=>by
   rw[n1o];have:=u0e hm l;omega
  rw[if_pos hs,if_pos (.inr hs),decide_eq_true (rfl:(0:Int)=0),Bool.not_true,tff,hd_val (n+3) hs.lab (by have:=hs.raw.m1;omega),obs,decide_eq_true (rfl:(0:Int)=0),Bool.not_true,tff,e2j (n+10) hs.raw,obs,
   show ((16:Int))=((16:Nat):Int) from rfl,s1d (n+5) v0c (fun y0=>r0d (n+11) y0.1) (fun e=>h2g (n+5) e) (fun e=>by rw[j1s];omega) _ _ 16 (by omega) (by omega) (by omega) (by simp),obs]
  have c1:=hch 16 v0c (x0k x.2.2.1 c.1) (by omega) (by omega);have c2:=hch 4 o0h x.2.2.2.1.1 (by omega) ht.1;have c3:=hch 4 o0h x.2.2.2.1.2.1 (by omega) ht.2.1;have c4:=hch 4 o0h x.2.2.2.1.2.2 (by omega) ht.2.2;have cv:=fun (out:List (List UInt8)) (l:List Slo) (h1:l.length≤4096) (h2:out.length≤100000)=>v1y (n+5) o0h (fun y0=>j0v (n+11) y0.1) (fun e=>w1t (n+5) e) (fun e=>by rw[o0x];omega) out l 4 (by omega) (by omega) (by omega) h2
  have hl:f0i (n+11) a0c ([j1q x]++cutB 16 v0c (x0k x.2.2.1 c.1),x.2.2.2.1,(0:Int),())=some (.inl (j1q x::(cutB 16 v0c (x0k x.2.2.1 c.1)++(cutB 4 o0h x.2.2.2.1.1++(cutB 4 o0h x.2.2.2.1.2.1++cutB 4 o0h x.2.2.2.1.2.2))),())):=by
   obtain ⟨f,hf⟩:∃f,a0c=f+4:=⟨a0c-4,by unfold a0c;omega⟩;rw[hf,g0e,tfd,if_pos (by omega),tfd,if_pos rfl,show ((4:Int))=((4:Nat):Int) from rfl,cv _ _ ht.1 (by simp;omega),obs,show IntKind.wrap .i64 ((0:Int)+1)=1 from by decide,
    g0e,tfd,if_pos (by omega),tfd,if_neg (by omega),tfd,if_pos rfl,show ((4:Int))=((4:Nat):Int) from rfl,cv _ _ ht.2.1 (by simp;omega),obs,show IntKind.wrap .i64 ((1:Int)+1)=2 from by decide,
    g0e,tfd,if_pos (by omega),tfd,if_neg (by omega),tfd,if_neg (by omega),tfd,if_pos rfl,show ((4:Int))=((4:Nat):Int) from rfl,cv _ _ ht.2.2 (by simp;omega),obs,show IntKind.wrap .i64 ((2:Int)+1)=3 from by decide,
    g0e,tfd,if_neg (by omega)]
   simp
  rw[hl,obs,a0r];unfold r0p;rw[if_neg h0]
 ·rw[if_neg hs,if_neg (by rintro (k | k);exact h0 k;exact hs k)];rfl
theorem d2p (n:Nat) {s:Sta} (hw:StaW s):w0b (n+15) s=some (if StaOk s then (p1g s,0) else ([],2)):=by
 rw[h1g,m0g n hw,obs];by_cases h:StaOk s
 ·have hc:=h.whole.1;have hb:=d1e s.1;have hk:=h.clock;rw[if_pos h,if_pos h,decide_eq_true (rfl:(0:Int)=0),Bool.not_true,tff,bytes_ok (n+10) hc,obs,tfd,if_pos (by omega),l1i (n+13) (by simp[hb]),obs,
   x0x (n+12) _ _ (by simp) (by simp[j0y,hb]),obs,e1m (n+13),obs]
  dsimp only;have hsw:IntKind.wrap .i64 (s.2.2.1+1)=s.2.2.1+1:=by
   obtain ⟨_,k,_⟩:=hk;rcases k with k | ⟨k1,k2⟩
   ·rw[k];decide
   ·exact w64 (by omega) (by omega)
  have e:toB ([]++h0m (x1j++toB (bts s.1))++List.flatMap n8I [s.2.1,IntKind.wrap .i64 (s.2.2.1+1)])=p1f s:=by
   rw[hsw];unfold p1f n8B;simp only[List.nil_append,d2g,y0z,List.flatMap_cons,List.flatMap_nil,List.append_nil,List.append_assoc]
  change a0b (g0m (n+14) (toB ([]++h0m (x1j++toB (bts s.1))++List.flatMap n8I [s.2.1,IntKind.wrap .i64 (s.2.2.1+1)])) 512) _=_
  rw[e,show ((512:Int))=((512:Nat):Int) from rfl,s0u (n+9) _ 512 (by rw[i1h];omega) (by omega),obs];rfl
 ·rw[if_neg h,if_neg h];rfl
theorem a2j {c:Conf} {x:Ser} (hc:OkC c) (h:x=ser0∨SerOk c x):(r0p c x).length≤100000:=by
 have hp:=q1a hc.rng;unfold r0p;split
 ·simp;omega
 ·rename_i h0;have hs:SerOk c x:=h.resolve_left h0;have ht:=d2k hs;have hrd:=l1g hs.raw;have hch:∀ {α:Type} (m:Nat) (f:α→List UInt8) (l:List α),1≤m→l.length≤4096→(cutB m f l).length≤4096:=fun m f l hm hl=>by
   rw[n1o];have:=u0e hm l;omega
  have c1:=hch 16 v0c (x0k x.2.2.1 c.1) (by omega) (by omega);have c2:=hch 4 o0h x.2.2.2.1.1 (by omega) ht.1;have c3:=hch 4 o0h x.2.2.2.1.2.1 (by omega) ht.2.1;have c4:=hch 4 o0h x.2.2.2.1.2.2 (by omega) ht.2.2;simp;omega
theorem p1r {s:Sta} {i:Nat} {x:Ser} (h:r0t s i x):x=ser0∨SerOk s.1 x:=by
 rcases h with h | h
 ·exact .inl h
 ·exact .inr h.1
theorem all_l4 (n:Nat) {s:Sta} (hw:StaW s) (hs:StaOk s):∀(rest pre:List Ser) (f:Nat) (out:List (List UInt8)) (i:Int),s.2.2.2=pre++rest→i=pre.length→out.length≤100000*pre.length+1 →
  n0w (n+12) (f+rest.length+1) (s,(0:Int),out,i,())=some (.inl ((0:Int),out++rest.flatMap (r0p s.1),())):=by
 have hL:=hs.whole.len;intro rest;induction rest with
 | nil =>
  intro pre f out i h hi ho;have hn:¬(i<((s.2.2.2.length:Nat):Int)):=by have:=congrArg List.length h;simp at this;omega
  rw[m0u,tfd,if_pos rfl,tfd,if_neg hn];simp
 | cons a rest ih =>
  intro pre f out i h hi ho;have hlen:=congrArg List.length h;simp at hlen;have hia:s.2.2.2[pre.length]? = some a:=by rw[h];simp
  have hr:=p1r (hs.right pre.length a hia);obtain ⟨w1,w2⟩:=hw.at hia;have hpl:=a2j hs.whole.1 hr;rw[show f+(a::rest).length+1=(f+rest.length+1)+1 by simp;omega,m0u,tfd,if_pos rfl,tfd,if_pos (by omega),c0w h hi,obs,e2t n hs.whole.1 w1 w2,if_pos hr,obs];dsimp only;rw[tfd,if_pos (by omega),w64 (x:=i+1) (by omega) (by omega)];rw[ih (pre++[a]) f _ (i+1) (idxl h) (idxs hi) (by simp;omega)];simp
theorem all_val (n:Nat) {s:Sta} (hw:StaW s):e1y (n+16) s=some (if StaOk s then (allB s,0) else ([],2)):=by
 rw[r1p,d2p n hw,obs];by_cases h:StaOk s
 ·have hL:=h.whole.len;rw[if_pos h,if_pos h];dsimp only;have:=all_l4 (n+3) hw h s.2.2.2 [] (a0c-s.2.2.2.length-1) [p1g s] 0 rfl rfl (by simp);rw[←lfu (by omega)] at this;rw[this,obs,a0r];rfl
 ·rw[if_neg h,if_neg h];obtain ⟨f,hf⟩:∃f,a0c=f+1:=⟨a0c-1,by unfold a0c;omega⟩;dsimp only;rw[hf,m0u,tfd,if_neg (by decide),obs,a0r];rfl
theorem s1j {α:Type} {m:Nat} (hm:1≤m) (xs:List α):(g0q xs.length m xs).length=(xs.length+m-1) / m:=by
 obtain ⟨c,hc⟩:∃c,c=(g0q xs.length m xs).length:=⟨_,rfl⟩;have h1:=(l0y hm xs c);rw[hc] at h1;have h2:¬(g0q xs.length m xs).length*m<xs.length:=fun h=>Nat.lt_irrefl _ (h1.2 h)
 rw[←hc] at h2 ⊢;symm;apply Nat.div_eq_of_lt_le
 ·cases c with
  | zero=>omega
  | succ k =>
   have h3:=(l0y hm xs k).1 (by rw[←hc];omega);rw[Nat.add_mul];omega
 ·rw[Nat.succ_mul];omega
theorem u0d {α:Type} {m:Nat} (hm:1≤m) (f:α→List UInt8) (l:List α):(cutB m f l).length=(l.length+m-1) / m:=by rw[n1o,s1j hm]
theorem c1r {α:Type} {m w:Nat} (hm:1≤m) (hmw:m*w=512) {f:α→List UInt8} {l:List α} (hf:∀x∈l,(f x).length=w):∀s∈cutB m f l,s.length=512:=by
 intro s hs;unfold cutB at hs;obtain ⟨p,hp,rfl⟩:=List.mem_map.1 hs;obtain ⟨h1,h2⟩:=f1k hm hp;rw[q0u,x1z _ fun x hx=>hf x (h2 x hx)];have:p.length*w≤m*w:=Nat.mul_le_mul_right w h1;omega
def nsec (k m:Nat):Nat:=(k+m-1) / m
def Secs (L:List (List UInt8)):Prop:=∀s∈L,s.length=512
theorem Secs.take {L:List (List UInt8)} (h:Secs L) (k:Nat):Secs (L.take k):=fun s hs=>h s (List.mem_of_mem_take hs)
theorem Secs.drop {L:List (List UInt8)} (h:Secs L) (k:Nat):Secs (L.drop k):=fun s hs=>h s (List.mem_of_mem_drop hs)
theorem Secs.le {L:List (List UInt8)} (h:Secs L):∀s∈L,s.length≤1000000:=fun s hs=>by have:=h s hs;omega
def v2 (l:List UInt8):Int:=valI (h0m (l.take 2))
def need (c:Conf):Nat:=nsec c.1.toNat 16+(nsec c.2.2.1.1.toNat 4+nsec c.2.2.1.2.1.toNat 4+nsec c.2.2.1.2.2.toNat 4)
end Go.Proofs.YtagnkfbpgkckiaaGreatDoor
namespace Go.Proofs.YtagnkfbpgkckiaaGreatDoor
open Go.Flat Go.Plim
set_option linter.unusedVariables false
def w1i (c:Conf) (s:Trs) (o:Slo) (l:List Ev):Prop :=
 (l=[]∧o=s0∧∀t,FInv c s [] t)∨∃t,EndsAt l t∧FInv c s l t∧o=(t / c.2.1.1,cellOf (win c.2.1.1 l (t / c.2.1.1)))
theorem w1i.fold {c:Conf} {s:Trs} {o:Slo} {l:List Ev} (h:w1i c s o l):FoldOk c s:=by
 rcases h with ⟨_,_,h⟩ | ⟨t,_,h,_⟩
 ·exact (h 0).ok
 ·exact h.ok
def Turn (o:Slo) (i:Int):Prop:=0<o.2.1∧o.1≠i
end Go.Proofs.YtagnkfbpgkckiaaGreatDoor
namespace Go.Proofs.YtagnkfbpgkckiaaGreatDoor
open Go.Flat Go.Plim
set_option linter.unusedVariables false
set_option linter.unusedSimpArgs false
def rawOf (room:Int) (l:List Ev):Rw :=
 (if (l.length:Int)≤room then 0 else (l.length:Int)-room,(if (l.length:Int)≤room then 0 else ((l[l.length-room.toNat-1]?).getD e0).1,l.drop (l.length-room.toNat)))
structure SerInv (c:Conf) (s:Ser) (l:List Ev):Prop where
 lab:LabOk s.1
 len:l.length≤1000000
 raw:s.2.2.1=rawOf c.1 l
 opn:w1i c s.2.2.2.1 s.2.2.2.2 l
 last:(l=[]∧s.2.1 = -1)∨EndsAt l s.2.1
theorem SerInv.foll {c:Conf} {s:Ser} {l:List Ev} (h:SerInv c s l):Foll l:=by
 rcases h.last with ⟨rfl,_⟩ | h
 ·exact Foll.nil
 ·exact h.foll
theorem b1m {l:List Ev} {t:Int} (h:EndsAt l t):∃e,l.getLast? = some e∧e.1=t:=by
 obtain ⟨x,hx,hxt⟩:=h.last;rcases List.eq_nil_or_concat l with rfl | ⟨p,y,rfl⟩
 ·cases hx
 rw[List.concat_eq_append] at *
 have h1:=h.le y (by simp);refine ⟨y,by simp,?_⟩;rcases List.mem_append.1 hx with q | q
 ·have:=(r0e.1 h.foll).2.2 x q y (by simp);omega
 ·simp at q;rw[←q];exact hxt
theorem h2s {l:List Ev} {t u:Int} (h:EndsAt l t) (k:EndsAt l u):t=u:=by
 obtain ⟨e,h1,h2⟩:=b1m h;obtain ⟨e',k1,k2⟩:=b1m k;rw[h1] at k1;simp at k1;rw[←h2,←k2,k1]
theorem SerInv.at_ {c:Conf} {s:Ser} {l:List Ev} (h:SerInv c s l) (hl:l≠[]):EndsAt l s.2.1∧FInv c s.2.2.2.1 l s.2.1∧s.2.2.2.2=(s.2.1 / c.2.1.1,cellOf (win c.2.1.1 l (s.2.1 / c.2.1.1))):=by
 have he:=h.last.resolve_left fun k=>hl k.1
 rcases h.opn with k | ⟨t,k1,k2,k3⟩
 ·exact absurd k.1 hl
 ·have:=h2s he k1;subst this;exact ⟨he,k2,k3⟩
theorem b2x {a b:Int} (ha:1≤a) (hb:1≤b) (hm:b % a=0):0<b / a:=by
 rcases Int.lt_or_le 0 (b / a) with z | z
 ·exact z
 ·exfalso;have e:a*(b / a)=b:=by have:=Int.mul_ediv_add_emod b a;omega
  have:a*(b / a)≤a*0:=Int.mul_le_mul_of_nonneg_left z (by omega);omega
noncomputable def y0m (s:Sta) (l:List Lab):Option Nat:=s.2.2.2.findIdx? fun x=>decide (x.1=l∧LvX s x)
noncomputable def roomV (s:Sta):Option Nat:=s.2.2.2.findIdx? fun x=>decide (¬LvX s x)
noncomputable def lvAt (s:Sta) (i:Nat):Bool:=match s.2.2.2[i]? with | some x=>decide (LvX s x) | none=>false
noncomputable def v0v (s:Sta):List Nat:=(List.range s.2.2.2.length).filter (lvAt s)
theorem j1r {s:Sta} {l:List Lab} {i:Nat}:y0m s l=some i↔∃x,s.2.2.2[i]? = some x∧x.1=l∧LvX s x∧∀j,j<i→∀y,s.2.2.2[j]? = some y→¬(y.1=l∧LvX s y):=by
 unfold y0m;rw[List.findIdx?_eq_some_iff_getElem];constructor
 ·rintro ⟨h,h1,h2⟩;have h1:=of_decide_eq_true h1;refine ⟨_,List.getElem?_eq_getElem h,h1.1,h1.2,fun j hj y hy => ?_⟩;obtain ⟨hjl,e⟩:=List.getElem?_eq_some_iff.1 hy;have:=h2 j hj;rw[e] at this
  simpa using this
 ·rintro ⟨x,hx,h1,h2,h3⟩;obtain ⟨hl,e⟩:=List.getElem?_eq_some_iff.1 hx;refine ⟨hl,by rw[e];exact decide_eq_true ⟨h1,h2⟩,fun j hj => ?_⟩;have:=h3 j hj _ (List.getElem?_eq_getElem (by omega))
  simpa using this
theorem b2s {s:Sta} {l:List Lab}:y0m s l=none↔∀x∈s.2.2.2,¬(x.1=l∧LvX s x):=by
 unfold y0m;rw[List.findIdx?_eq_none_iff];simp
theorem f2n {s:Sta} {i:Nat} {x:Ser} (h:s.2.2.2[i]? = some x):lvAt s i=decide (LvX s x):=by
 unfold lvAt;rw[h]
theorem live_len (s:Sta):(v0v s).length≤s.2.2.2.length:=by
 have:=List.length_filter_le (lvAt s) (List.range s.2.2.2.length)
 simpa [v0v] using this
theorem el_get {l:List Ser} {k:Nat} (h:k<l.length):∃y,l[k]? = some y:=⟨l[k],List.getElem?_eq_getElem h⟩
noncomputable def b2v (s:Sta) (l:List Lab):Int×Int:=if Whole s then (match y0m s l with | some i=>((i:Int),0) | none=>(0,3)) else (0,2)
noncomputable def f2s (s:Sta):List Int:=if Whole s then (v0v s).map Int.ofNat else []
def IsF (s:Sta) (l:List Lab) (k:Nat):Prop:=∃y,s.2.2.2[k]? = some y∧y.1=l∧LvX s y
noncomputable instance (s l k):Decidable (IsF s l k):=Classical.propDecidable _
theorem b2r {s:Sta} {l:List Lab} {m:Nat} (h:IsF s l m) (hn:∀j,j<m→¬IsF s l j):y0m s l=some m:=by
 obtain ⟨y,h1,h2,h3⟩:=h;exact j1r.2 ⟨y,h1,h2,h3,fun j hj z hz k=>hn j hj ⟨z,hz,k.1,k.2⟩⟩
theorem find_no {s:Sta} {l:List Lab} (hn:∀j,j<s.2.2.2.length→¬IsF s l j):y0m s l=none:=by
 refine b2s.2 fun x hx k => ?_
 obtain ⟨i,hi,e⟩:=List.getElem_of_mem hx;exact hn i hi ⟨x,by rw[List.getElem?_eq_getElem hi,e],k.1,k.2⟩
theorem stt_find (n:Nat) {s:Sta} (hw:StaW s) (l:List Lab):k1v (n+10) s l=some (b2v s l):=by
 rw[t1p,t1q (n+5) s,obs,tfn,tfd];unfold b2v;by_cases h:Whole s
 case neg=>rw[if_neg h,if_neg h,if_neg (show ¬((sta0,(2:Int)).2=0) by decide)]
 rw[if_pos h,if_pos h,if_pos rfl];have his:∀k:Nat,k<s.2.2.2.length→(fun y1:Int×Unit=>g0t (n+9) y1.1 s l s) ((k:Int),())=some (decide (IsF s l k)):=by
  intro k hk;obtain ⟨y,hy⟩:=el_get hk;have hm:=(hw.at hy).2;show g0t (n+9) (k:Int) s l s=_;rw[k1u,c1g hy,obs,z0z (n+6) _ _ hm.l,obs,tfd,c1k (n+1) hy hm,obs];by_cases h1:y.1=l
  ·rw[if_pos h1];refine congrArg some (decide_eq_decide.2 ⟨fun k=>⟨y,hy,h1,k⟩,fun ⟨z,z1,z2,z3⟩ => ?_⟩);rw[hy] at z1;cases z1;exact z3
  ·rw[if_neg h1,decide_eq_false (fun q:IsF s l k=>by obtain ⟨z,z1,z2,z3⟩:=q;rw[hy] at z1;cases z1;exact h1 z2)]
 rcases f1d (n+8) s (fun y1:Int×Unit=>g0t (n+9) y1.1 s l s) (fun k=>decide (IsF s l k)) (by have:=h.len;omega) his with ⟨m,q1,q2,q3,q4⟩ | ⟨q1,q2⟩
 ·rw[show (fun y1:Int×Unit=>g0t (n+9) y1.1 s l (s,(0:Int)).1)=fun y1:Int×Unit=>g0t (n+9) y1.1 s l s from rfl,q4,obs,tfd,if_neg (by omega),b2r (of_decide_eq_true q2) (fun j hj=>of_decide_eq_false (q3 j hj))]
 ·rw[show (fun y1:Int×Unit=>g0t (n+9) y1.1 s l (s,(0:Int)).1)=fun y1:Int×Unit=>g0t (n+9) y1.1 s l s from rfl,q2,obs,tfd,if_pos (by decide),find_no (fun j hj=>of_decide_eq_false (q1 j hj))]
theorem lvAt_el {s:Sta} {k:Nat} {y:Ser} (h:s.2.2.2[k]? = some y):decide (LvX s y)=lvAt s k:=(f2n h).symm
theorem z1j (n:Nat) {s:Sta} (hw:StaW s) (hL:s.2.2.2.length≤1000000):∀(d k f:Nat) (out:List Int),k+d=s.2.2.2.length→d<f→out.length≤k →
  j0m (n+7) f (s,out,(s.2.2.2.length:Int),(k:Int),())=some (.inl (out++((List.range' k d).filter (lvAt s)).map Int.ofNat,())):=by
 intro d;induction d with
 | zero =>
  intro k f out hk hf ho;obtain ⟨f,rfl⟩:∃g,f=g+1:=⟨f-1,by omega⟩;rw[u0p,decide_eq_false (by omega),tff];simp
 | succ d ih =>
  intro k f out hk hf ho;obtain ⟨f,rfl⟩:∃g,f=g+1:=⟨f-1,by omega⟩;obtain ⟨y,hy⟩:=el_get (l:=s.2.2.2) (k:=k) (by omega);rw[u0p,decide_eq_true (by omega),tft,c1k n hy (hw.at hy).2,obs,lvAt_el hy,w64 (by omega) (by omega),show ((k:Int)+1)=((k+1:Nat):Int) by omega,List.range'_succ];cases h:lvAt s k
  ·rw[tff,ih (k+1) f out (by omega) (by omega) (by omega),List.filter_cons_of_neg (by simp[h])]
  ·rw[tft,decide_eq_true (by omega),tft,ih (k+1) f _ (by omega) (by omega) (by simp;omega),List.filter_cons_of_pos h];simp
theorem stt_live (n:Nat) {s:Sta} (hw:StaW s):k1t (n+8) s=some (f2s s):=by
 rw[t1o,t1q (n+3) s,obs,tfn,tfd];unfold f2s;by_cases h:Whole s
 case neg=>rw[if_neg h,if_neg h,if_neg (show ¬((sta0,(2:Int)).2=0) by decide)]
 rw[if_pos h,if_pos h,if_pos rfl];have hL:=h.len;have e:j0m (n+7) a0c (s,([]:List Int),(s.2.2.2.length:Int),(0:Int),())=_:=z1j n hw (by omega) s.2.2.2.length 0 a0c [] (by omega) (by unfold a0c;omega) (by simp);simp only;rw[e,obs,a0r];unfold v0v;rw[List.range_eq_range'];rfl
theorem v1a (s:Sta):(f2s s).length≤65536:=by
 unfold f2s;split
 ·rename_i h;have:=h.len;have:=live_len s;simp;omega
 ·simp
theorem ser0_w:SerW ser0:=by
 refine ⟨?_,?_,⟨?_,?_,?_⟩,t1v⟩
 ·unfold I64;simp[ser0]
 ·intro e he;simp[ser0,r0w] at he
 ·intro x hx;simp[ser0] at hx
 ·intro x hx;simp[ser0] at hx
 ·intro x hx;simp[ser0] at hx
theorem zsec_len:zsec.length=512:=List.length_replicate ..
theorem prt16 {x:Int} (h:0≤x):prt x 16=((nsec x.toNat 16:Nat):Int):=by unfold prt nsec;omega
theorem prt4 {x:Int} (h:0≤x):prt x 4=((nsec x.toNat 4:Nat):Int):=by unfold prt nsec;omega
theorem need_plc {c:Conf} (hc:Rng c):(plc c).toNat=need c+1:=by
 have hr:=hc.raw;have h0:=hc.n0;have h1:=hc.n1;have h2:=hc.n2;unfold plc need;rw[prt16 (by omega),prt4 (by omega),prt4 (by omega),prt4 (by omega)];omega
theorem e1b {c:Conf} {x:Ser} (hc:Rng c) (h:x=ser0∨SerOk c x):Secs (r0p c x)∧(r0p c x).length=(plc c).toNat:=by
 have hn:=need_plc hc;unfold r0p;by_cases h0:x=ser0
 ·rw[if_pos h0];exact ⟨fun s hs=>by rw[(List.mem_replicate.1 hs).2,zsec_len],List.length_replicate ..⟩
 have hs:SerOk c x:=h.resolve_left h0;rw[if_neg h0];have c1:=u0d (m:=16) (by omega) v0c (x0k x.2.2.1 c.1);have c2:=u0d (m:=4) (by omega) o0h x.2.2.2.1.1;have c3:=u0d (m:=4) (by omega) o0h x.2.2.2.1.2.1;have c4:=u0d (m:=4) (by omega) o0h x.2.2.2.1.2.2;have f0:=hs.fold.n0;have f1:=hs.fold.n1;have f2:=hs.fold.n2;have hrd:=l1g hs.raw;constructor
 ·intro s hs';rcases List.mem_cons.1 hs' with q | hs'
  ·rw[q];exact b2q (v1d hs.lab)
  rcases List.mem_append.1 hs' with q | hs'
  ·exact c1r (m:=16) (w:=32) (by omega) (by omega) (fun y _=>j1s y) s q
  rcases List.mem_append.1 hs' with q | hs'
  ·exact c1r (m:=4) (w:=128) (by omega) (by omega) (fun y _=>o0x y) s q
  rcases List.mem_append.1 hs' with q | q
  ·exact c1r (m:=4) (w:=128) (by omega) (by omega) (fun y _=>o0x y) s q
  ·exact c1r (m:=4) (w:=128) (by omega) (by omega) (fun y _=>o0x y) s q
 ·rw[hn,List.length_cons];simp only[List.length_append,c1,c2,c3,c4,hrd.1];unfold need nsec;rw[←f0,←f1,←f2];simp only[Int.toNat_natCast];omega
theorem j1o {α β:Type} {m:Nat} {g:α→List β}:∀l:List α,(∀x∈l,(g x).length=m)→(l.flatMap g).length=l.length*m
 | [],_=>by simp
 | x::l,h=>by
  rw[List.flatMap_cons,List.length_append,h x List.mem_cons_self,j1o l fun y hy=>h y (List.mem_cons_of_mem _ hy),List.length_cons,Nat.add_mul];omega
theorem j2d {s:Sta} (hs:StaOk s):Secs (allB s)∧(allB s).length=1+s.2.2.2.length*(plc s.1).toNat∧∀x∈s.2.2.2,(r0p s.1 x).length=(plc s.1).toNat:=by
 have hr:∀x∈s.2.2.2,x=ser0∨SerOk s.1 x:=fun x hx=>by
  obtain ⟨i,hi⟩:=List.getElem?_of_mem hx;exact p1r (hs.right i x hi)
 have hp:∀x∈s.2.2.2,(r0p s.1 x).length=(plc s.1).toNat:=fun x hx=>(e1b hs.whole.1.rng (hr x hx)).2
 refine ⟨fun y hy => ?_,?_,hp⟩
 ·rcases List.mem_cons.1 hy with rfl | hy
  ·exact z1i s
  ·obtain ⟨x,hx,hxy⟩:=List.mem_flatMap.1 hy;exact (e1b hs.whole.1.rng (hr x hx)).1 y hxy
 ·unfold allB;rw[List.length_cons,j1o _ hp];omega
structure Goes (s:Sta) (l:List Lab) (e:Ev):Prop where
 st:StaOk s
 lab:LabOk l
 ev:EvOk e
 lo:mk s≤e.1
 hi:e.1<mk s+s.1.2.1.1
inductive PlaceAt (s:Sta) (l:List Lab) (e:Ev):Nat→Ser→Bool→Prop
 | found {i:Nat} {x:Ser} (hf:y0m s l=some i) (hx:s.2.2.2[i]? = some x) (hl:x.1=l) (hlv:LvX s x) (ht:x.2.1<e.1):PlaceAt s l e i x false
 | room {i:Nat} (hf:y0m s l=none) (hs:e.2.2.2=false) (hr:roomV s=some i):PlaceAt s l e i (l,(-1,(r0w,(emp s.1,s0)))) true
def j0j (c:Conf) (k:Int):Int:=if k=0 then c.2.1.1 else if k=1 then c.2.1.2.1 else c.2.1.2.2
def tierN (c:Conf) (k:Int):Int:=if k=0 then c.2.2.1.1 else if k=1 then c.2.2.1.2.1 else c.2.2.1.2.2
noncomputable def keptV (s:Sta) (k:Int):Int×(Int×Int) :=
 if StaOk s then (if k<0∨2<k then (0,(0,1)) else ((oldV s.2.1 (j0j s.1 k) (tierN s.1 k)).1,(s.2.1 / j0j s.1 k,0))) else (0,(0,2))
theorem m1f {now w m:Int} (h:OfP now w) (hm:1≤m∧m≤4096):(oldV now w m).2=0:=by
 unfold oldV;rw[if_pos ⟨h,hm.1,hm.2⟩]
theorem n1p (n:Nat) {s:Sta} (hw:StaW s) (k:Int):y0p (n+16) s k=some (keptV s k):=by
 rw[w1b,s1e,m0g n hw];unfold keptV;by_cases h:StaOk s
 case neg=>rw[if_neg h,if_neg h];rfl
 rw[if_pos h,if_pos h];have hr:=h.whole.1.rng;have ht:=h.clock.1;simp only[obs,decide_true,Bool.not_true,tff,tfd,tfn,o1l (n+11)];by_cases h1:k<0
 ·rw[if_pos h1,if_pos (Or.inl h1)];rfl
 rw[if_neg h1];by_cases h2:3≤k
 ·rw[if_pos h2,if_pos (show k<0∨2<k by omega)];rfl
 rw[if_neg h2,if_neg (show ¬(k<0∨2<k) by omega)];simp only[obs,if_true];have q0:=u0x ht hr.w0.1;have q1:=u0x ht hr.w1.1;have q2:=u0x ht hr.w2.1;rcases (by omega:k=0∨k=1∨k=2) with e | e | e
 ·subst e;simp only[if_true,if_neg (nz hr.w0.1),q0,m1f ⟨ht.1,ht.2,hr.w0.1,hr.w0.2⟩ hr.n0];rfl
 ·subst e;simp only[if_true,if_neg (show ¬((1:Int)=0) by decide),if_neg (nz hr.w1.1),q1,m1f ⟨ht.1,ht.2,hr.w1.1,hr.w1.2⟩ hr.n1];rfl
 ·subst e;simp only[if_true,if_neg (show ¬((2:Int)=0) by decide),if_neg (show ¬((2:Int)=1) by decide),if_neg (nz hr.w2.1),q2,m1f ⟨ht.1,ht.2,hr.w2.1,hr.w2.2⟩ hr.n2];rfl
theorem y0a {a b:Cel} (ha:c0k a) (hb:c0k b) (h:Ahead a b):mrgE a b=(mrg a b,0):=by
 unfold mrgE;rw[if_pos ⟨ha,hb⟩,if_pos h]
theorem j2c {w:Int}:∀(L:List Slo) (c:Cel) (lo hi:Int),Up L→(∀s∈L,FitsP s.2 w s.1∧lo≤s.1∧s.1<hi)→c0k c→(c=z0∨c.2.2.1.1 / w<lo)→lo≤hi→(allE c (L.map (·.2))).1=z0∨(allE c (L.map (·.2))).1.2.2.1.1 / w<hi:=by
 intro L;induction L with
 | nil=>intro c lo hi _ _ _ h hle;rcases h with h | h;exact .inl h;exact .inr (by simp only[List.map_nil,allE];omega)
 | cons s L ih =>
  intro c lo hi hu hs hc hl hle;unfold Up at hu;rw[List.pairwise_cons] at hu;obtain ⟨hf,h1,h2⟩:=hs s (by simp);have ha:Ahead c s.2:=by
   rcases hl with h | h
   ·exact .inl h
   ·refine .inr (.inr ?_);have e:=hf.f;rcases Int.lt_or_le c.2.2.1.1 s.2.2.1.1 with q | q
    ·exact q
    ·have:=Int.ediv_le_ediv (c:=w) (by have:=hf.w0;omega) q;omega
  simp only[List.map_cons,allE];rw[y0a hc hf.n.ok ha,if_pos rfl];refine ih _ (s.1+1) hi hu.2 (fun x hx=>⟨(hs x (by simp[hx])).1,by have:=hu.1 x hx;omega,(hs x (by simp[hx])).2.2⟩) (q1v hc hf.n.ok ha) (.inr ?_) (by omega);have el:(mrg c s.2).2.2.1.1=s.2.2.2.1.1:=by
   unfold mrg;by_cases k:c=z0
   ·rw[if_pos k]
   ·rw[if_neg k,if_neg hf.n.ne]
  rw[el,hf.l];omega
theorem i1g {t:List Slo} {w i j a:Int} (h:TierOk t w) (hb:d0l t a) (h0:0≤i) (ha:i≤a):c0k (j0l t i j).1∧((j0l t i j).1=z0∨(j0l t i j).1.2.2.1.1 / w<a):=by
 refine ⟨w0s _ _ _,?_⟩;unfold j0l;split
 ·exact .inl rfl
 ·unfold within;have hn:=(q1u h a).1 hb;refine j2c (w:=w) _ z0 i a ((k1s h).filter _) (fun s hs => ?_) s0y (.inl rfl) ha;obtain ⟨s1,s2⟩:=List.mem_filter.1 hs;have s2:=of_decide_eq_true s2;exact ⟨(s0j h s1).1,s2.1,hn s s1⟩
theorem y1o {a b:Cel} {w k:Int} (hw:1≤w) (ha:a=z0∨a.2.2.1.1 / w<k) (hb:b=z0∨b.2.1.1 / w=k):Ahead a b:=by
 rcases ha with ha | ha
 ·exact .inl ha
 rcases hb with hb | hb
 ·exact .inr (.inl hb)
 refine .inr (.inr ?_);rcases Int.lt_or_le a.2.2.1.1 b.2.1.1 with q | q
 ·exact q
 ·have:=Int.ediv_le_ediv (c:=w) (by omega) q;omega
theorem c2u {w:Int}:∀(L:List Slo) (c:Cel) (lo:Int),Up L→(∀s∈L,FitsP s.2 w s.1∧lo≤s.1)→c0k c→(c=z0∨c.2.2.1.1 / w<lo)→∀b:Int,(c=z0∨b≤c.2.1.1 / w)→b≤lo→(allE c (L.map (·.2))).1=z0∨b≤(allE c (L.map (·.2))).1.2.1.1 / w:=by
 intro L;induction L with
 | nil=>intro c lo _ _ _ _ b hb _;exact hb
 | cons s L ih =>
  intro c lo hu hs hc hl b hb hbl;unfold Up at hu;rw[List.pairwise_cons] at hu;obtain ⟨hf,h1⟩:=hs s (by simp);have ha:Ahead c s.2:=by
   rcases hl with h | h
   ·exact .inl h
   ·refine .inr (.inr ?_);have e:=hf.f;rcases Int.lt_or_le c.2.2.1.1 s.2.2.1.1 with q | q
    ·exact q
    ·have:=Int.ediv_le_ediv (c:=w) (by have:=hf.w0;omega) q;omega
  simp only[List.map_cons,allE];rw[y0a hc hf.n.ok ha,if_pos rfl];refine ih _ (s.1+1) hu.2 (fun x hx=>⟨(hs x (by simp[hx])).1,by have:=hu.1 x hx;omega⟩) (q1v hc hf.n.ok ha) (.inr ?_) b ?_ (by omega)
  ·have el:(mrg c s.2).2.2.1.1=s.2.2.2.1.1:=by
    unfold mrg;by_cases k:c=z0
    ·rw[if_pos k]
    ·rw[if_neg k,if_neg hf.n.ne]
   rw[el,hf.l];omega
  ·unfold mrg;by_cases k:c=z0
   ·rw[if_pos k,hf.f];exact .inr (by omega)
   ·rw[if_neg k,if_neg hf.n.ne];rcases hb with hb | hb
    ·exact absurd hb k
    ·exact .inr hb
theorem t1l {t:List Slo} {w i j:Int} (h:TierOk t w) (h0:0≤i):(j0l t i j).1=z0∨i≤(j0l t i j).1.2.1.1 / w:=by
 unfold j0l;split
 ·exact .inl rfl
 ·unfold within;refine c2u (w:=w) _ z0 i ((k1s h).filter _) (fun s hs => ?_) s0y (.inl rfl) i (.inl rfl) (Int.le_refl _);obtain ⟨s1,s2⟩:=List.mem_filter.1 hs;have s2:=of_decide_eq_true s2;exact ⟨(s0j h s1).1,s2.1⟩
theorem now_up {t:List Slo} {a b T:Int} {cur:Cel} (h:TierOk t a) (hb:d0l t (T / a)) (ha:1≤a) (hb1:1≤b) (hm:b % a=0) (hT:0≤T) (hc:CellN cur) (hf:cur.2.1.1 / a=T / a) :
  ∃m,mrgE (j0l t (T / b*(b / a)) (T / a)).1 cur=(m,0)∧CellN m∧m.2.1.1 / b=T / b:=by
 have hp:=b2x ha hb1 hm;have q:=(edvm (t:=T) ha hb1 hm).2;have hT':0≤T / b:=Int.ediv_nonneg hT (by omega);have u0:T / b*(b / a)≤T / a:=by rw[←q];exact Int.ediv_mul_le _ (by omega)
 have p0:0≤T / b*(b / a):=Int.mul_nonneg hT' (by omega);obtain ⟨k1,k2⟩:=i1g (j:=T / a) h hb p0 u0;have k3:=t1l (j:=T / a) h p0;have hah:=y1o ha k2 (.inr hf);refine ⟨_,y0a k1 hc.ok hah,?_,?_⟩
 ·rcases k1 with z | z
  ·rw[z,w1j];exact hc
  ·rcases hah with y | y | y
   ·rw[y,w1j];exact hc
   ·exact absurd y hc.ne
   ·exact mrg_N z hc y
 ·unfold mrg;by_cases z:(j0l t (T / b*(b / a)) (T / a)).1=z0
  ·rw[if_pos z,←(edvm (t:=cur.2.1.1) ha hb1 hm).2,hf,q]
  ·rw[if_neg z,if_neg hc.ne];have z1:=k2.resolve_left z;have z2:=k3.resolve_left z;have z3:=(k1.n z).ft;have z4:(j0l t (T / b*(b / a)) (T / a)).1.2.1.1 / a≤(j0l t (T / b*(b / a)) (T / a)).1.2.2.1.1 / a:=Int.ediv_le_ediv (by omega) z3;rw[←(edvm (t:=(j0l t (T / b*(b / a)) (T / a)).1.2.1.1) ha hb1 hm).2];have z5:(j0l t (T / b*(b / a)) (T / a)).1.2.1.1 / a / (b / a)≤T / a / (b / a):=Int.ediv_le_ediv (by omega) (by omega);have z6:T / b≤(j0l t (T / b*(b / a)) (T / a)).1.2.1.1 / a / (b / a):=by rw[Int.le_ediv_iff_mul_le hp];exact z2
   omega
theorem z0n {t:List Slo} {w T i j:Int} {cur:Cel} {ok:Prop} [Decidable ok] (hok:ok) (h:TierOk t w) (hb:T = -1∨d0l t (T / w)∧CellN cur∧cur.2.1.1 / w=T / w) (h0:0≤i) (hij:i≤j):(f0f ok i j T w t (cur,0)).2=0:=by
 unfold f0f;rw[if_pos hok,if_neg (by omega),if_neg (by omega)];by_cases h1:T = -1
 ·rw[if_pos h1]
 rw[if_neg h1];obtain ⟨hb,hc,hf⟩:=hb.resolve_left h1;by_cases h2:T / w<i
 ·rw[if_pos h2];exact j0k h h0 hij
 rw[if_neg h2];by_cases h3:j≤T / w
 ·rw[if_pos h3];exact j0k h h0 hij
 rw[if_neg h3,if_neg (nn rfl)];obtain ⟨k1,k2⟩:=i1g (j:=j) h hb h0 (by omega:i≤T / w);rw[y0a k1 hc.ok (y1o h.w0 k2 (.inr hf))]
structure Ends3 (c:Conf) (s:Ser):Prop where
 t0:s.2.1 = -1∨d0l s.2.2.2.1.1 (s.2.1 / c.2.1.1)∧CellN s.2.2.2.2.2∧s.2.2.2.2.2.2.1.1 / c.2.1.1=s.2.1 / c.2.1.1
 t1:s.2.1 = -1∨∃m,now1 c s=(m,0)∧d0l s.2.2.2.1.2.1 (s.2.1 / c.2.1.2.1)∧CellN m∧m.2.1.1 / c.2.1.2.1=s.2.1 / c.2.1.2.1
 t2:s.2.1 = -1∨∃m,now2 c s=(m,0)∧d0l s.2.2.2.1.2.2 (s.2.1 / c.2.1.2.2)∧CellN m∧m.2.1.1 / c.2.1.2.2=s.2.1 / c.2.1.2.2
theorem u1a {c:Conf} {s:Ser} (h:SerOk c s):Ends3 c s:=by
 have hr:=h.fold.cok.rng;by_cases hn:s.2.1 = -1
 ·exact ⟨.inl hn,.inl hn,.inl hn⟩
 have ht:=t0u h hn;obtain ⟨he,_⟩:=i1w h hn;have hf:s.2.2.2.2.2.2.1.1 / c.2.1.1=s.2.1 / c.2.1.1:=by
  rw[he.fit.f,←he.fit.l,he.ol]
 obtain ⟨m1,a1,a2,a3⟩:=now_up h.fold.t0 he.b0 hr.w0.1 hr.w1.1 h.fold.cok.m1 ht.1 he.fit.n hf;obtain ⟨m2,b1,b2,b3⟩:=now_up h.fold.t1 he.b1 hr.w1.1 hr.w2.1 h.fold.cok.m2 ht.1 a2 a3;have e1:now1 c s=(m1,0):=a1;refine ⟨.inr ⟨he.b0,he.fit.n,hf⟩,.inr ⟨m1,e1,he.b1,a2,a3⟩,.inr ⟨m2,?_,he.b2,b2,b3⟩⟩;unfold now2;rw[e1,if_neg (nn rfl)];exact b1
noncomputable def b1d (c:Conf) (s:Ser) (k i j:Int):Cel×Int :=
 if k=0 then f0f (SerOk c s) i j s.2.1 c.2.1.1 s.2.2.2.1.1 (s.2.2.2.2.2,0)
 else if k=1 then f0f (SerOk c s) i j s.2.1 c.2.1.2.1 s.2.2.2.1.2.1 (now1 c s)
 else f0f (SerOk c s) i j s.2.1 c.2.1.2.2 s.2.2.2.1.2.2 (now2 c s)
theorem u1k {c:Conf} {s:Ser} (h:SerOk c s) (k:Int) {i j:Int} (h0:0≤i) (hij:i≤j):(b1d c s k i j).2=0:=by
 have he:=u1a h;unfold b1d;split
 ·exact z0n h h.fold.t0 he.t0 h0 hij
 split
 ·by_cases hn:s.2.1 = -1
  ·unfold f0f;rw[if_pos h,if_neg (by omega),if_neg (by omega),if_pos hn]
  ·obtain ⟨m,e,k1,k2,k3⟩:=he.t1.resolve_left hn;rw[e];exact z0n h h.fold.t1 (.inr ⟨k1,k2,k3⟩) h0 hij
 ·by_cases hn:s.2.1 = -1
  ·unfold f0f;rw[if_pos h,if_neg (by omega),if_neg (by omega),if_pos hn]
  ·obtain ⟨m,e,k1,k2,k3⟩:=he.t2.resolve_left hn;rw[e];exact z0n h h.fold.t2 (.inr ⟨k1,k2,k3⟩) h0 hij
theorem f2r {s:Sta} (h:StaOk s) {x:Ser} (hx:x∈s.2.2.2) (hl:LvX s x):SerOk s.1 x∧0≤x.2.1:=by
 obtain ⟨i,hi,e⟩:=List.getElem_of_mem hx;rcases h.right i x (by rw[List.getElem?_eq_getElem hi,e]) with k | k
 ·exact absurd k hl.1
 ·exact ⟨k.1,k.2.1⟩
theorem m1x {α:Type} {l pre rest:List α} {x:α} {i:Int} (h:l=pre++x::rest) (hi:i=pre.length):l[i.toNat]? = some x:=by subst h hi;simp
section
variable {del:Int×Unit→Option Bool} {p:Int→Bool} {L:List Int} (hd:∀x∈L,del (x,())=some (p x))
include hd
end
theorem b2t {s:Sta} (h:Whole s) {l:List Lab} {i:Nat} (hf:y0m s l=some i):b2v s l=((i:Int),0):=by
 unfold b2v;rw[if_pos h,hf]
theorem b2u {s:Sta} (h:Whole s) {l:List Lab} (hf:y0m s l=none):b2v s l=(0,3):=by
 unfold b2v;rw[if_pos h,hf]
end Go.Proofs.YtagnkfbpgkckiaaGreatDoor

namespace Go.Plim
set_option linter.unusedVariables false
def tz:Nat→Nat→Nat
 | 0,_=>0
 | k+1,x=>if x % 2=1 then 0 else tz k (x / 2)+1
theorem tz_odd (k x:Nat) (h:x % 2=1):tz k x=0:=by cases k<;>simp[tz,h]
theorem v0i:∀(k x:Nat),0<x→x<2^k→tz k x<k∧x=2^tz k x*(x / 2^tz k x)∧(x / 2^tz k x) % 2=1:=by
 intro k;induction k with
 | zero=>intro x h0 h1;simp at h1;omega
 | succ k ih =>
  intro x h0 h1;by_cases h:x % 2=1
  ·rw[tz_odd (k+1) x h];simp[h]
  ·have e:tz (k+1) x=tz k (x / 2)+1:=by simp[tz,h]
   rw[Nat.pow_succ] at h1;obtain ⟨a1,a2,a3⟩:=ih (x / 2) (by omega) (by omega);rw[e,Nat.pow_succ,Nat.mul_comm (2^tz k (x / 2)) 2,←Nat.div_div_eq_div_mul];refine ⟨by omega,?_,a3⟩;rw[Nat.mul_assoc,←a2];omega
theorem d1b {k x t:Nat} (h0:0<x) (h1:x<2^k) (h:x % 2^t=0) (ho:(x / 2^t) % 2=1):tz k x=t:=by
 obtain ⟨a1,a2,a3⟩:=v0i k x h0 h1;have b2:x=2^t*(x / 2^t):=by have:=Nat.div_add_mod x (2^t);omega
 generalize tz k x=s at *
 generalize hy:x / 2^s=y at *
 generalize hz:x / 2^t=z at *
 have e:2^s*y=2^t*z:=by omega
 have one:∀(s t y z:Nat),2^s*y=2^t*z→y % 2=1→z % 2=1→s<t→False:=by
  intro s t y z e hy hz hlt;obtain ⟨d,rfl⟩:∃d,t=s+(d+1):=⟨t-s-1,by omega⟩;rw[Nat.pow_add,Nat.mul_assoc] at e;have:=Nat.eq_of_mul_eq_mul_left (Nat.two_pow_pos s) e;rw[this,Nat.pow_succ,Nat.mul_comm (2^d) 2,Nat.mul_assoc,Nat.mul_mod_right] at hy;cases hy
 rcases Nat.lt_trichotomy s t with q | q | q
 ·exact (one s t y z e a3 ho q).elim
 ·exact q
 ·exact (one t s z y e.symm ho a3 q).elim
theorem v1k {a b:Nat} (ha:a % 2=1) (t:Nat):Nat.gcd a (2^t*b)=Nat.gcd a b:=by
 have hc:Nat.Coprime 2 a:=by
  unfold Nat.Coprime;rw[Nat.gcd_rec,ha];simp
 exact Nat.Coprime.gcd_mul_left_cancel_right b (Nat.Coprime.pow_left t hc)
theorem c1q {a b:Nat} (h:a≤b):Nat.gcd a (b-a)=Nat.gcd a b:=by
 have:=Nat.gcd_add_self_right (m:=a) (n:=b-a);rw[Nat.sub_add_cancel h] at this;exact this.symm
theorem g2v {x y s t a b:Nat} (hx:x=2^s*a) (hy:y=2^t*b) (ha:a % 2=1) (hb:b % 2=1):Nat.gcd x y=2^(min s t)*Nat.gcd a b:=by
 subst hx hy;rcases Nat.le_total s t with h | h
 ·rw[Nat.min_eq_left h];obtain ⟨d,rfl⟩:∃d,t=s+d:=⟨t-s,by omega⟩;rw[Nat.pow_add,Nat.mul_assoc,Nat.gcd_mul_left,v1k ha]
 ·rw[Nat.min_eq_right h];obtain ⟨d,rfl⟩:∃d,s=t+d:=⟨s-t,by omega⟩;rw[Nat.pow_add,Nat.mul_assoc,Nat.gcd_mul_left,Nat.gcd_comm (2^d*a),v1k hb,Nat.gcd_comm b a]
def bl:Nat→Nat→Nat
 | 0,_=>0
 | k+1,x=>if x=0 then 0 else bl k (x / 2)+1
theorem a1o (k:Nat):bl k 0=0:=by cases k<;>simp[bl]
theorem k0a:∀(k x:Nat),x<2^k→x<2^bl k x∧(0<x→0<bl k x∧2^(bl k x-1)≤x)∧bl k x≤k:=by
 intro k;induction k with
 | zero=>intro x h;simp[bl] at *;omega
 | succ k ih =>
  intro x h;by_cases h0:x=0
  ·subst h0;rw[a1o];simp
  ·have e:bl (k+1) x=bl k (x / 2)+1:=by simp[bl,h0]
   rw[Nat.pow_succ] at h;obtain ⟨a1,a2,a3⟩:=ih (x / 2) (by omega);rw[e];refine ⟨by rw[Nat.pow_succ];omega,fun _=>⟨by omega,?_⟩,by omega⟩;rw[Nat.add_sub_cancel];by_cases h1:x / 2=0
   ·rw[h1,a1o];simp;omega
   ·obtain ⟨b1,b2⟩:=a2 (by omega);have:2^bl k (x / 2)=2^(bl k (x / 2)-1)*2:=by rw[←Nat.pow_succ];congr 1;omega
    omega
theorem s1r {k x b:Nat} (h:x<2^k) (h0:0<x) (h1:2^b≤x) (h2:x<2^(b+1)):bl k x=b+1:=by
 obtain ⟨a1,a2,_⟩:=k0a k x h;obtain ⟨c1,c2⟩:=a2 h0;have d1:b<bl k x:=by
  rcases Nat.lt_or_ge b (bl k x) with q | q
  ·exact q
  ·have:=Nat.pow_le_pow_right (show 0<2 by decide) q;omega
 have d2:bl k x-1<b+1:=by
  rcases Nat.lt_or_ge (bl k x-1) (b+1) with q | q
  ·exact q
  ·have:=Nat.pow_le_pow_right (show 0<2 by decide) q;omega
 omega
end Go.Plim

namespace Go.Plim
set_option linter.unusedVariables false
def ofN (x:Nat):Wd:=(((x / 18446744073709551616:Nat):Int),((x % 18446744073709551616:Nat):Int))
theorem u1y (x:Nat):mkW (x:Int)=ofN x:=by
 unfold mkW ofN;rw[Prod.mk.injEq];constructor<;>omega
theorem wv_ofN (x:Nat):wv (ofN x)=x:=by rw[←u1y,o1h]
theorem ofN_ok {x:Nat} (h:x<340282366920938463463374607431768211456):WdOk (ofN x):=by rw[←u1y];exact q1w (by omega) (by omega)
theorem ofN_zero (x:Nat):(decide ((ofN x).1=(0:Int))&&decide ((ofN x).2=(0:Int)))=decide (x=0):=by
 rw[←Bool.decide_and];apply decide_eq_decide.2;unfold ofN;simp only;omega
def od (x:Nat):Nat:=x / 2^tz 128 x
theorem o0q {x:Nat} (h0:0<x) (h1:x<340282366920938463463374607431768211456):tz 128 x<128∧x=2^tz 128 x*od x∧od x % 2=1 :=
 v0i 128 x h0 h1
theorem f2g {x:Nat} (h0:0<x) (h1:x<340282366920938463463374607431768211456):0<od x:=by
 have:=(o0q h0 h1).2.2;rcases Nat.eq_zero_or_pos (od x) with q | q
 ·rw[q] at this;cases this
 ·exact q
theorem od_le (x:Nat):od x≤x:=Nat.div_le_self _ _
theorem od_even {x:Nat} (h0:0<x) (h1:x<340282366920938463463374607431768211456) (he:x % 2=0):2*od x≤x:=by
 obtain ⟨_,a2,a3⟩:=o0q h0 h1;have ht:1≤tz 128 x:=by
  rcases Nat.eq_zero_or_pos (tz 128 x) with q | q
  ·rw[q] at a2;simp at a2;omega
  ·exact q
 have:2^1≤2^tz 128 x:=Nat.pow_le_pow_right (by decide) ht;have:=Nat.mul_le_mul_right (od x) this;omega
theorem g2w {a x:Nat} (ha:a % 2=1) (h0:0<x) (h1:x<340282366920938463463374607431768211456):Nat.gcd a (od x)=Nat.gcd a x:=by
 obtain ⟨_,a2,_⟩:=o0q h0 h1;have:=v1k (b:=od x) ha (tz 128 x);rw[←a2] at this;exact this.symm
theorem g2u {x y:Nat} (hx:0<x) (hx':x<340282366920938463463374607431768211456) (hy:0<y) (hy':y<340282366920938463463374607431768211456) :
  Nat.gcd x y=Nat.gcd (od x) y*2^(min (tz 128 x) (tz 128 y)):=by
 obtain ⟨_,a2,a3⟩:=o0q hx hx';obtain ⟨_,b2,b3⟩:=o0q hy hy';rw[g2v a2 b2 a3 b3,g2w a3 hy hy',Nat.mul_comm]
theorem or_pow {q k:Nat} (h:2^(k+1) ∣ q):q ||| 2^k=q+2^k:=by
 obtain ⟨m,rfl⟩:=h;exact (Nat.two_pow_add_eq_or_of_lt (i:=k+1) (b:=2^k) (by rw[Nat.pow_succ];have:=Nat.two_pow_pos k;omega) m).symm
theorem div_part {a d k q:Nat} (hd:0<d) (h:d*2^k≤a):q+2^k+(a-d*2^k) / d=q+a / d:=by
 have e:a=(a-d*2^k)+d*2^k:=by omega
 have:a / d=(a-d*2^k) / d+2^k:=by
  conv=>lhs;rw[e]
  rw[Nat.add_mul_div_left _ _ hd]
 omega
theorem half_up {x k:Nat} (hk:k<64) (h:x*2^k<340282366920938463463374607431768211456) :
  x / 18446744073709551616*2^k+x % 18446744073709551616 / 2^(64-k)=x*2^k / 18446744073709551616∧x % 18446744073709551616 / 2^(64-k)<2^k ∧
  x % 18446744073709551616*2^k % 18446744073709551616=x*2^k % 18446744073709551616:=by
 have e:18446744073709551616=2^(64-k)*2^k:=by rw[←Nat.pow_add,show 64-k+k=64 by omega]
 have hp:=Nat.two_pow_pos k;have hq:=Nat.two_pow_pos (64-k);have h0:=Nat.div_add_mod x 18446744073709551616;have h1:=Nat.mod_lt x (show 0<18446744073709551616 by decide);generalize x / 18446744073709551616=H at *
 generalize x % 18446744073709551616=L at *
 subst h0;have e1:(18446744073709551616*H+L)*2^k=L*2^k+18446744073709551616*(H*2^k):=by rw[Nat.add_mul,Nat.mul_assoc];omega
 have e2:L*2^k / 18446744073709551616=L / 2^(64-k):=by
  conv=>lhs;rw[e]
  exact Nat.mul_div_mul_right _ _ hp
 refine ⟨?_,?_,?_⟩
 ·rw[e1,Nat.add_mul_div_left _ _ (by decide),e2];omega
 ·exact Nat.div_lt_of_lt_mul (by rw[←e];exact h1)
 ·rw[e1,Nat.add_mul_mod_self_left]
theorem g2t {x k:Nat} (hk:k<64) (h:x<340282366920938463463374607431768211456) :
  x / 18446744073709551616 / 2^k=x / 2^k / 18446744073709551616 ∧
  x % 18446744073709551616 / 2^k+x / 18446744073709551616*2^(64-k) % 18446744073709551616=x / 2^k % 18446744073709551616∧x % 18446744073709551616 / 2^k<2^(64-k) ∧
  ∃m,x / 18446744073709551616*2^(64-k) % 18446744073709551616=2^(64-k)*m:=by
 have e:18446744073709551616=2^k*2^(64-k):=by rw[←Nat.pow_add,show k+(64-k)=64 by omega]
 have hp:=Nat.two_pow_pos k;have hq:=Nat.two_pow_pos (64-k);have c1:x / 18446744073709551616 / 2^k=x / 2^k / 18446744073709551616:=by rw[Nat.div_div_eq_div_mul,Nat.div_div_eq_div_mul,Nat.mul_comm]
 have h0:=Nat.div_add_mod x 18446744073709551616;have h1:=Nat.mod_lt x (show 0<18446744073709551616 by decide);have hm0:∀H:Nat,H*2^(64-k) % 18446744073709551616=2^(64-k)*(H % 2^k):=by
  intro H
  conv=>lhs;rw[e]
  rw[Nat.mul_mod_mul_right,Nat.mul_comm]
 have hm:=hm0 (x / 18446744073709551616);have c3:x % 18446744073709551616 / 2^k<2^(64-k):=Nat.div_lt_of_lt_mul (by rw[←e];exact h1);refine ⟨c1,?_,c3,_,hm⟩;rw[hm];generalize x / 18446744073709551616=H at *
 generalize x % 18446744073709551616=L at *
 subst h0;have e1:(18446744073709551616*H+L) / 2^k=L / 2^k+2^(64-k)*H:=by
  conv=>lhs;rw[e]
  rw[Nat.mul_assoc,Nat.add_comm,Nat.add_mul_div_left _ _ hp]
 have h2:=Nat.div_add_mod H (2^k);have e2:2^(64-k)*H=18446744073709551616*(H / 2^k)+2^(64-k)*(H % 2^k):=by
  conv=>lhs;rw[←h2]
  rw[Nat.mul_add,←Nat.mul_assoc,Nat.mul_comm (2^(64-k)),←e]
 rw[e1,e2];have hlt:L / 2^k+2^(64-k)*(H % 2^k)<18446744073709551616:=by
  have h3:=Nat.mod_lt H hp;have h4:2^(64-k)*(H % 2^k+1)≤2^(64-k)*2^k:=Nat.mul_le_mul_left _ h3;rw[Nat.mul_comm (2^(64-k)) (2^k),←e,Nat.mul_add,Nat.mul_one] at h4;omega
 omega
end Go.Plim

namespace Go.Plim
set_option linter.unusedVariables false
theorem h2y:∀(k a b:Nat),a+b+1=2^k→a &&& b=0:=by
 intro k;induction k with
 | zero => intro a b h; have : a = 0 := by simp at h; omega
           rw[this];simp
 | succ k ih =>
  intro a b h;rw[Nat.pow_succ] at h;have h1:(a &&& b) % 2≠1:=by rw[ne_eq,Nat.and_mod_two_eq_one];omega
  have h2:(a &&& b) / 2=0:=by rw[Nat.and_div_two];exact ih _ _ (by omega)
  omega
theorem low_bit {x:Nat} (h0:0<x) (h:x<18446744073709551616):x &&& (18446744073709551616-x)=2^tz 64 x:=by
 obtain ⟨a1,a2,a3⟩:=v0i 64 x h0 h;generalize hs:tz 64 x=s at *
 generalize x / 2^s=o at *
 have e:18446744073709551616=2^s*2^(64-s):=by rw[←Nat.pow_add,show s+(64-s)=64 by omega]
 have hp:=Nat.two_pow_pos s;have e1:18446744073709551616-x=2^s*(2^(64-s)-o):=by rw[Nat.mul_sub,←e,←a2]
 have ho:o<2^(64-s):=by
  rcases Nat.lt_or_ge o (2^(64-s)) with q | q
  ·exact q
  ·have:=Nat.mul_le_mul_left (2^s) q;rw[←e,←a2] at this;omega
 obtain ⟨c,hc⟩:∃c,2^(64-s)=2*2^c:=⟨63-s,by rw[show 64-s=(63-s)+1 by omega,Nat.pow_succ,Nat.mul_comm]⟩;have e2:o &&& (2^(64-s)-o)=1:=by
  have h1:(o &&& (2^(64-s)-o)) % 2=1:=by rw[Nat.and_mod_two_eq_one];omega
  have h2:(o &&& (2^(64-s)-o)) / 2=0:=by rw[Nat.and_div_two];exact h2y c _ _ (by omega)
  omega
 rw[e1]
 conv=>lhs;rw[a2]
 rw[Nat.mul_comm (2^s) o,Nat.mul_comm (2^s),←Nat.shiftLeft_eq,←Nat.shiftLeft_eq,←Nat.shiftLeft_and_distrib,e2,Nat.shiftLeft_eq,Nat.one_mul]
theorem tz_lo {x:Nat} (h:x<340282366920938463463374607431768211456) (h0:0<x % 18446744073709551616):tz 128 x=tz 64 (x % 18446744073709551616):=by
 obtain ⟨a1,a2,a3⟩:=v0i 64 _ h0 (Nat.mod_lt x (by decide));generalize tz 64 (x % 18446744073709551616)=s at *
 have e:18446744073709551616=2^s*(2*2^(63-s)):=by rw[←Nat.pow_succ',←Nat.pow_add,show s+(63-s).succ=64 by omega]
 have hp:=Nat.two_pow_pos s;have h2:=Nat.div_add_mod x 18446744073709551616;generalize x % 18446744073709551616=L at *
 generalize x / 18446744073709551616=H at *
 generalize L / 2^s=o at *
 have e1:x=2^s*(2*(2^(63-s)*H)+o):=by
  rw[Nat.mul_add,←a2,←Nat.mul_assoc 2,←Nat.mul_assoc (2^s),←e];omega
 refine d1b (by omega) h ?_ ?_
 ·rw[e1,Nat.mul_mod_right]
 ·rw[e1,Nat.mul_div_cancel_left _ hp];omega
theorem tz_hi {x:Nat} (h:x<340282366920938463463374607431768211456) (h0:x % 18446744073709551616=0) (hx:0<x):tz 128 x=64+tz 64 (x / 18446744073709551616):=by
 have hH:0<x / 18446744073709551616:=by omega
 obtain ⟨a1,a2,a3⟩:=v0i 64 _ hH (by omega);generalize tz 64 (x / 18446744073709551616)=s at *
 have h2:=Nat.div_add_mod x 18446744073709551616;generalize x / 18446744073709551616=H at *
 generalize H / 2^s=o at *
 have hp:=Nat.two_pow_pos (64+s);have e1:x=2^(64+s)*o:=by
  rw[Nat.pow_add,Nat.mul_assoc,←a2];omega
 refine d1b hx h ?_ ?_
 ·rw[e1,Nat.mul_mod_right]
 ·rw[e1,Nat.mul_div_cancel_left _ hp];exact a3
theorem y1k {k x s:Nat} (h:x<2^k) (hs:2^s≤x):bl k x=s+bl k (x / 2^s):=by
 have hp:=Nat.two_pow_pos s;have h0:0<x / 2^s:=Nat.div_pos hs hp;have h1:x / 2^s<2^k:=Nat.lt_of_le_of_lt (Nat.div_le_self _ _) h;obtain ⟨a1,a2,a3⟩:=k0a k (x / 2^s) h1;obtain ⟨b1,b2⟩:=a2 h0;obtain ⟨c,hc⟩:∃c,bl k (x / 2^s)=c+1:=⟨bl k (x / 2^s)-1,by omega⟩;rw[hc] at a1 b2 ⊢;rw[Nat.add_sub_cancel] at b2;rw[←Nat.add_assoc];refine s1r h (by omega) ?_ ?_
 ·rw[Nat.pow_add,Nat.mul_comm];exact (Nat.le_div_iff_mul_le hp).1 b2
 ·rw[Nat.add_assoc,Nat.pow_add,Nat.mul_comm];exact (Nat.div_lt_iff_lt_mul hp).1 a1
theorem y1j {k m x:Nat} (h:x<2^k) (h':x<2^m):bl k x=bl m x:=by
 rcases Nat.eq_zero_or_pos x with q | q
 ·subst q;rw[a1o,a1o]
 ·obtain ⟨a1,a2,_⟩:=k0a m x h';obtain ⟨b1,b2⟩:=a2 q;obtain ⟨c,hc⟩:∃c,bl m x=c+1:=⟨bl m x-1,by omega⟩;rw[hc] at a1 b2 ⊢;rw[Nat.add_sub_cancel] at b2;exact s1r h q b2 a1
theorem bl_up {a d k:Nat} (ha:a<2^128) (hd:d<2^128) (hk:bl 128 d+k≤bl 128 a) (h0:0<a):d*2^k<2^128:=by
 obtain ⟨a1,a2,a3⟩:=k0a 128 a ha;obtain ⟨d1,d2,d3⟩:=k0a 128 d hd;have h1:d*2^k<2^bl 128 d*2^k:=Nat.mul_lt_mul_of_pos_right d1 (Nat.two_pow_pos k);rw[←Nat.pow_add] at h1;exact Nat.lt_of_lt_of_le h1 (Nat.pow_le_pow_right (by decide) (by omega))
theorem bl_over {a d:Nat} (ha:a<2^128) (hd:d<2^128) (h0:0<d):a<d*2^(bl 128 a-bl 128 d+1):=by
 obtain ⟨a1,a2,a3⟩:=k0a 128 a ha;obtain ⟨d1,d2,d3⟩:=k0a 128 d hd;obtain ⟨b1,b2⟩:=d2 h0;have h1:2^(bl 128 d-1)*2^(bl 128 a-bl 128 d+1)≤d*2^(bl 128 a-bl 128 d+1):=Nat.mul_le_mul_right _ b2;rw[←Nat.pow_add] at h1;have h2:2^bl 128 a≤2^(bl 128 d-1+(bl 128 a-bl 128 d+1)):=Nat.pow_le_pow_right (by decide) (by omega);omega
theorem bl_less {a d:Nat} (ha:a<2^128) (hd:d<2^128) (h:bl 128 a<bl 128 d):a<d:=by
 obtain ⟨a1,a2,a3⟩:=k0a 128 a ha;obtain ⟨d1,d2,d3⟩:=k0a 128 d hd;rcases Nat.eq_zero_or_pos d with q | q
 ·subst q;rw[a1o] at h;omega
 ·obtain ⟨b1,b2⟩:=d2 q;have:2^bl 128 a≤2^(bl 128 d-1):=Nat.pow_le_pow_right (by decide) (by omega);omega
end Go.Plim

namespace Go.Proofs.YtagnkfbpgkckiaaGreatDoor
open Go.Flat Go.Plim
set_option linter.unusedVariables false
set_option linter.unusedSimpArgs false
theorem wrapN (x:Nat):IntKind.wrap .u64 (x:Int)=((x % 18446744073709551616:Nat):Int):=by
 rw[IntKind.wrap_u64];omega
theorem shlN (x k:Nat) (hk:k≤64):shlI .u64 (x:Int) (k:Int)=((x*2^k % 18446744073709551616:Nat):Int):=by
 show IntKind.wrap .u64 ((x:Int)*2^(min (k:Int).toNat 64))=_;rw[show min (k:Int).toNat 64=k by omega,←wrapN];congr 1
theorem shrN (x k:Nat) (hk:k≤64):shrI .u64 (x:Int) (k:Int)=((x / 2^k:Nat):Int):=by
 rw[e2d _ _ hk];simp
theorem orN {x y:Nat} (hx:x<18446744073709551616) (hy:y<18446744073709551616):orI .u64 (x:Int) (y:Int)=((x ||| y:Nat):Int):=by
 unfold orI;have e2:(BitVec.ofInt IntKind.u64.bits (x:Int) ||| BitVec.ofInt IntKind.u64.bits (y:Int)).toNat=x ||| y:=by
  show (BitVec.ofInt 64 (x:Int) ||| BitVec.ofInt 64 (y:Int)).toNat=_;rw[BitVec.toNat_or,BitVec.ofInt_natCast,BitVec.ofInt_natCast,BitVec.toNat_ofNat,BitVec.toNat_ofNat,Nat.mod_eq_of_lt (by omega),Nat.mod_eq_of_lt (by omega)]
 rw[e2];have:x ||| y<2^64:=Nat.or_lt_two_pow (by omega) (by omega)
 exact wu64 (by omega) (by omega)
theorem andN {x y:Nat} (hx:x<18446744073709551616) (hy:y<18446744073709551616):andI .u64 (x:Int) (y:Int)=((x &&& y:Nat):Int):=by
 unfold andI;have e2:(BitVec.ofInt IntKind.u64.bits (x:Int) &&& BitVec.ofInt IntKind.u64.bits (y:Int)).toNat=x &&& y:=by
  show (BitVec.ofInt 64 (x:Int) &&& BitVec.ofInt 64 (y:Int)).toNat=_;rw[BitVec.toNat_and,BitVec.ofInt_natCast,BitVec.ofInt_natCast,BitVec.toNat_ofNat,BitVec.toNat_ofNat,Nat.mod_eq_of_lt (by omega),Nat.mod_eq_of_lt (by omega)]
 rw[e2];have:x &&& y≤x:=Nat.and_le_left;exact wu64 (by omega) (by omega)
theorem x1f {H L k:Nat} (h:L<2^k):H*2^k ||| L=H*2^k+L:=by
 rw[Nat.mul_comm];exact (Nat.two_pow_add_eq_or_of_lt h H).symm
end Go.Proofs.YtagnkfbpgkckiaaGreatDoor
namespace Go.Proofs.YtagnkfbpgkckiaaGreatDoor
open Go.Flat Go.Plim
set_option linter.unusedVariables false
def lenT:List UInt8 :=
 h0e
theorem a2z (n:Nat) (x:Int):e0d (n+1) x =
 tif ((decide ((4294967296:Int)≤x))) (
 tif ((decide ((65536:Int)≤(shrI .u64 x (32:Int))))) (
 tif ((decide ((256:Int)≤(shrI .u64 (shrI .u64 x (32:Int)) (16:Int))))) (
 a0b (at? lenT (IntKind.wrap .u8 (shrI .u64 (shrI .u64 (shrI .u64 x (32:Int)) (16:Int)) (8:Int)))) fun r0 =>
 some (IntKind.wrap .i64 ((56:Int)+(IntKind.wrap .i64 (((UInt8.toNat r0):Nat):Int))))) (
 a0b (at? lenT (IntKind.wrap .u8 (shrI .u64 (shrI .u64 x (32:Int)) (16:Int)))) fun r1 =>
 some (IntKind.wrap .i64 ((48:Int)+(IntKind.wrap .i64 (((UInt8.toNat r1):Nat):Int)))))) (
 tif ((decide ((256:Int)≤(shrI .u64 x (32:Int))))) (
 a0b (at? lenT (IntKind.wrap .u8 (shrI .u64 (shrI .u64 x (32:Int)) (8:Int)))) fun r2 =>
 some (IntKind.wrap .i64 ((40:Int)+(IntKind.wrap .i64 (((UInt8.toNat r2):Nat):Int))))) (
 a0b (at? lenT (IntKind.wrap .u8 (shrI .u64 x (32:Int)))) fun r3 =>
 some (IntKind.wrap .i64 ((32:Int)+(IntKind.wrap .i64 (((UInt8.toNat r3):Nat):Int))))))) (
 tif ((decide ((65536:Int)≤x))) (
 tif ((decide ((256:Int)≤(shrI .u64 x (16:Int))))) (
 a0b (at? lenT (IntKind.wrap .u8 (shrI .u64 (shrI .u64 x (16:Int)) (8:Int)))) fun r4 =>
 some (IntKind.wrap .i64 ((24:Int)+(IntKind.wrap .i64 (((UInt8.toNat r4):Nat):Int))))) (
 a0b (at? lenT (IntKind.wrap .u8 (shrI .u64 x (16:Int)))) fun r5 =>
 some (IntKind.wrap .i64 ((16:Int)+(IntKind.wrap .i64 (((UInt8.toNat r5):Nat):Int)))))) (
 tif ((decide ((256:Int)≤x))) (
 a0b (at? lenT (IntKind.wrap .u8 (shrI .u64 x (8:Int)))) fun r6 =>
 some (IntKind.wrap .i64 ((8:Int)+(IntKind.wrap .i64 (((UInt8.toNat r6):Nat):Int))))) (
 a0b (at? lenT (IntKind.wrap .u8 x)) fun r7 =>
 some (IntKind.wrap .i64 ((0:Int)+(IntKind.wrap .i64 (((UInt8.toNat r7):Nat):Int))))))):=y0c n x
theorem lenT_all:((List.range 256).all fun z=>match lenT[z]? with | some r=>decide (r.toNat=bl 64 z) | none=>false)=true:=by decide +kernel
end Go.Proofs.YtagnkfbpgkckiaaGreatDoor
namespace Go.Proofs.YtagnkfbpgkckiaaGreatDoor
open Go.Flat Go.Plim
set_option linter.unusedVariables false
set_option linter.unusedSimpArgs false
theorem f0x (n x:Nat):l0s (n+1) (ofN x)=some (decide (x=0)):=by
 rw[l1m,ofN_zero]
theorem up_small {x k:Nat} (hk:k≤128) (h:x*2^k<340282366920938463463374607431768211456):x<2^(128-k):=by
 have e:340282366920938463463374607431768211456=2^(128-k)*2^k:=by rw[←Nat.pow_add,show 128-k+k=128 by omega]
 rw[e] at h;exact Nat.lt_of_mul_lt_mul_right h
theorem s0q (n x k:Nat) (hk:k<128) (h:x*2^k<340282366920938463463374607431768211456):x0l (n+1) (ofN x) (k:Int)=some (ofN (x*2^k)):=by
 rw[u1i];simp only[tfd];by_cases c:64≤k
 ·have e:(k:Int)-64=((k-64:Nat):Int):=by omega
  have hx:x<18446744073709551616:=Nat.lt_of_lt_of_le (up_small (by omega) h) (show 2^(128-k)≤2^64 from Nat.pow_le_pow_right (by decide) (by omega));have e2:x*2^k=18446744073709551616*(x*2^(k-64)):=by
   rw[show (18446744073709551616:Nat)=2^64 from rfl,Nat.mul_left_comm,←Nat.pow_add,show 64+(k-64)=k by omega]
  rw[if_pos (by omega),w64 (by omega) (by omega),if_neg (by omega),e];show some (shlI .u64 ((x % 18446744073709551616:Nat):Int) _,_)=some (((x*2^k / 18446744073709551616:Nat):Int),((x*2^k % 18446744073709551616:Nat):Int));rw[shlN _ _ (by omega),Nat.mod_eq_of_lt hx,e2,Nat.mul_div_cancel_left _ (by decide),Nat.mul_mod_right];rw[e2] at h;have:x*2^(k-64)<18446744073709551616:=Nat.lt_of_mul_lt_mul_left (show 18446744073709551616*(x*2^(k-64))<18446744073709551616*18446744073709551616 from h);rw[Nat.mod_eq_of_lt this];rfl
 ·have e:(64:Int)-k=((64-k:Nat):Int):=by omega
  obtain ⟨a1,a2,a3⟩:=half_up (show k<64 by omega) h;rw[if_neg (by omega),if_neg (by omega),w64 (by omega) (by omega),if_neg (by omega),if_neg (by omega),e];show some (orI .u64 (shlI .u64 ((x / 18446744073709551616:Nat):Int) _) (shrI .u64 ((x % 18446744073709551616:Nat):Int) _),shlI .u64 ((x % 18446744073709551616:Nat):Int) _)=some (((x*2^k / 18446744073709551616:Nat):Int),((x*2^k % 18446744073709551616:Nat):Int));have hq:x*2^k / 18446744073709551616<18446744073709551616:=Nat.div_lt_of_lt_mul h
  have h1:x / 18446744073709551616*2^k<18446744073709551616:=Nat.lt_of_le_of_lt (by rw[←a1];exact Nat.le_add_right _ _) hq;have h2:x % 18446744073709551616 / 2^(64-k)<18446744073709551616:=Nat.lt_of_le_of_lt (Nat.div_le_self _ _) (Nat.mod_lt _ (by decide));rw[shlN _ _ (by omega),shrN _ _ (by omega),shlN _ _ (by omega),Nat.mod_eq_of_lt h1,orN h1 h2,x1f a2,a1,a3]
theorem u0w (n x k:Nat) (hk:k<128) (h:x<340282366920938463463374607431768211456):t0w (n+1) (ofN x) (k:Int)=some (ofN (x / 2^k)):=by
 rw[l1p];simp only[tfd];have hq:x / 18446744073709551616<18446744073709551616:=Nat.div_lt_of_lt_mul h;by_cases c:64≤k
 ·have e:(k:Int)-64=((k-64:Nat):Int):=by omega
  rw[if_pos (by omega),w64 (by omega) (by omega),if_neg (by omega),e];show some (_,shrI .u64 ((x / 18446744073709551616:Nat):Int) _)=some (((x / 2^k / 18446744073709551616:Nat):Int),((x / 2^k % 18446744073709551616:Nat):Int));have e2:x / 2^k=x / 18446744073709551616 / 2^(k-64):=by
   rw[Nat.div_div_eq_div_mul,show (18446744073709551616:Nat)=2^64 from rfl,←Nat.pow_add,show 64+(k-64)=k by omega]
  have hlt:x / 18446744073709551616 / 2^(k-64)<18446744073709551616:=Nat.lt_of_le_of_lt (Nat.div_le_self _ _) hq;rw[shrN _ _ (by omega),e2,Nat.div_eq_of_lt hlt,Nat.mod_eq_of_lt hlt];rfl
 ·have e:(64:Int)-k=((64-k:Nat):Int):=by omega
  obtain ⟨a1,a2,a3,m,a4⟩:=g2t (show k<64 by omega) h;rw[if_neg (by omega),if_neg (by omega),if_neg (by omega),w64 (by omega) (by omega),if_neg (by omega),e];show some (shrI .u64 ((x / 18446744073709551616:Nat):Int) _,orI .u64 (shrI .u64 ((x % 18446744073709551616:Nat):Int) _) (shlI .u64 ((x / 18446744073709551616:Nat):Int) _))=some (((x / 2^k / 18446744073709551616:Nat):Int),((x / 2^k % 18446744073709551616:Nat):Int));have h3:x % 18446744073709551616 / 2^k<18446744073709551616:=Nat.lt_of_le_of_lt (Nat.div_le_self _ _) (Nat.mod_lt _ (by decide))
  have h4:x / 18446744073709551616*2^(64-k) % 18446744073709551616<18446744073709551616:=Nat.mod_lt _ (by decide);rw[shrN _ _ (by omega),shrN _ _ (by omega),shlN _ _ (by omega),orN h3 h4,Nat.or_comm];have a4':x / 18446744073709551616*2^(64-k) % 18446744073709551616=m*2^(64-k):=by rw[Nat.mul_comm m];exact a4
  rw[a4',x1f a3,←a4',Nat.add_comm];rw[show x % 18446744073709551616 / 2^k+x / 18446744073709551616*2^(64-k) % 18446744073709551616=x / 2^k % 18446744073709551616 from a2,show x / 18446744073709551616 / 2^k=x / 2^k / 18446744073709551616 from a1]
theorem wide_sub (n:Nat) {x y:Nat} (hx:x<340282366920938463463374607431768211456) (h:y≤x):k1c (n+2) (ofN x) (ofN y)=some (ofN (x-y),0):=by
 rw[s1x];have h1:x / 18446744073709551616<18446744073709551616:=Nat.div_lt_of_lt_mul hx;have h2:y / 18446744073709551616<18446744073709551616:=Nat.div_lt_of_lt_mul (Nat.lt_of_le_of_lt h hx);have h3:x % 18446744073709551616<18446744073709551616:=Nat.mod_lt _ (by decide);have h4:y % 18446744073709551616<18446744073709551616:=Nat.mod_lt _ (by decide);have e:∀z:Nat,ofN z=(((z / 18446744073709551616:Nat):Int),((z % 18446744073709551616:Nat):Int)):=fun _=>rfl
 rw[e x,e y,e (x-y)];have ex:=Nat.div_add_mod x 18446744073709551616;have ey:=Nat.div_add_mod y 18446744073709551616;have ez:=Nat.div_add_mod (x-y) 18446744073709551616;have h5:(x-y) % 18446744073709551616<18446744073709551616:=Nat.mod_lt _ (by decide);generalize x / 18446744073709551616=a at *
 generalize x % 18446744073709551616=b at *
 generalize y / 18446744073709551616=c at *
 generalize y % 18446744073709551616=d at *
 generalize (x-y) / 18446744073709551616=p at *
 generalize (x-y) % 18446744073709551616=q at *
 simp only[k1m,tfd,tft];by_cases hb:b<d
 ·have hb':(b:Int)<(d:Int)+0:=by omega
  rw[if_pos (by omega),if_pos (by omega),if_pos (by omega),if_pos (by omega),if_pos (by omega),if_pos (by omega),if_pos hb',if_pos (by omega),if_pos (by omega),if_neg (by omega),l0m,obs,if_pos rfl];congr 3<;>omega
 ·have hb':¬(b:Int)<(d:Int)+0:=by omega
  rw[if_pos (by omega),if_pos (by omega),if_pos (by omega),if_pos (by omega),if_pos (by omega),if_pos (by omega),if_neg hb',if_pos (by omega),if_pos (by omega),if_neg (by omega),l0m,obs,if_pos rfl];congr 3<;>omega
theorem o0n (n:Nat) {x y:Nat} (hx:x<340282366920938463463374607431768211456) (h:y≤x):j0s (n+3) (ofN x) (ofN y)=some (ofN (x-y)):=by
 rw[l1o,wide_sub n hx h];rfl
theorem i1c (n:Nat) {x y:Nat} (hx:x<340282366920938463463374607431768211456) (hy:y<340282366920938463463374607431768211456):h0w (n+1) (ofN x) (ofN y)=some (decide (x<y)):=by
 rw[w0l n (ofN_ok hx) (ofN_ok hy),wv_ofN,wv_ofN];congr 1;exact decide_eq_decide.2 (by omega)
theorem tz_pow (n:Nat):((List.range 64).all fun t=>match k0w (n+1) ((2^t:Nat):Int) with | some r=>decide (r=(t:Int)) | none=>false)=true:=by kernel_rfl
theorem tz_at (n t:Nat) (ht:t<64):k0w (n+1) ((2^t:Nat):Int)=some (t:Int):=by
 have h:=List.all_eq_true.1 (tz_pow n) t (List.mem_range.2 ht);split at h
 ·rename_i r hr;rw[hr,of_decide_eq_true h]
 ·cases h
theorem x1m {x:Nat} (h0:0<x) (h:x<18446744073709551616):andI .u64 (x:Int) (IntKind.wrap .u64 ((0:Int)-x))=((2^tz 64 x:Nat):Int):=by
 rw[show IntKind.wrap .u64 ((0:Int)-x)=((18446744073709551616-x:Nat):Int) by rw[IntKind.wrap_u64];omega,andN h (by omega)];exact congrArg Int.ofNat (low_bit h0 h)
theorem tz_val (n:Nat) {x:Nat} (h0:0<x) (h:x<18446744073709551616):k0w (n+1) (x:Int)=some ((tz 64 x:Nat):Int):=by
 have ht:=(v0i 64 x h0 h).1;have hp:=Nat.two_pow_pos (tz 64 x);have hp2:2^tz 64 x<18446744073709551616:=Nat.pow_lt_pow_right (a:=2) (by decide) ht;rw[←tz_at n _ ht];have e:tz 64 (2^tz 64 x)=tz 64 x:=d1b hp hp2 (Nat.mod_self _) (by rw[Nat.div_self hp]);rw[b1q,b1q,x1m h0 h,x1m hp hp2,e,decide_eq_false (show ¬((x:Int)=0) by omega),decide_eq_false (show ¬(((2^tz 64 x:Nat):Int)=0) by omega)]
theorem v0q (n:Nat) {x:Nat} (h0:0<x) (h:x<340282366920938463463374607431768211456):g0y (n+2) (ofN x)=some ((tz 128 x:Nat):Int):=by
 rw[b1z];show tif (decide (((x % 18446744073709551616:Nat):Int)=0)) (a0b (k0w (n+1) ((x / 18446744073709551616:Nat):Int)) fun r0=>some (IntKind.wrap .i64 (64+r0))) (a0b (k0w (n+1) ((x % 18446744073709551616:Nat):Int)) fun r1=>some r1)=_;rw[tfd];by_cases c:x % 18446744073709551616=0
 ·have h1:0<x / 18446744073709551616:=by omega
  have h2:x / 18446744073709551616<18446744073709551616:=Nat.div_lt_of_lt_mul h;have ht:=(v0i 64 _ h1 h2).1;rw[if_pos (by omega),tz_val n h1 h2,obs,w64 (by omega) (by omega),tz_hi h c h0];congr 1
 ·rw[if_neg (by omega),tz_val n (by omega) (Nat.mod_lt _ (by decide)),obs,tz_lo h (by omega)]
theorem lenT_at {z:Nat} (h:z<256):∃r,at? lenT (z:Int)=some r∧r.toNat=bl 64 z:=by
 have h1:=List.all_eq_true.1 lenT_all z (List.mem_range.2 h);split at h1
 ·rename_i r hr;refine ⟨r,?_,of_decide_eq_true h1⟩;unfold at?;rw[decide_eq_true (by omega)];exact hr
 ·cases h1
theorem n0t {x s K:Nat} {I S:Int} (hK:K=2^s) (hI:I=((x / K:Nat):Int)) (hS:S=s) (h2:x / K<256) (h1:K≤x∨s=0) (hx:x<18446744073709551616) (hs:s≤56) :
  (a0b (at? lenT (IntKind.wrap .u8 I)) fun r=>some (IntKind.wrap .i64 (S+IntKind.wrap .i64 (((UInt8.toNat r):Nat):Int))))=some ((bl 64 x:Nat):Int):=by
 obtain ⟨r,hr,hb⟩:=lenT_at h2;have hle:=(k0a 64 (x / K) (Nat.lt_of_le_of_lt (Nat.div_le_self _ _) hx)).2.2;have e:bl 64 x=s+bl 64 (x / K):=by
  rcases h1 with h1 | rfl
  ·rw[hK] at h1 ⊢;exact y1k hx h1
  ·subst hK;simp
 rw[hI,e];generalize x / K=z at *
 rw[wu8 (by omega) (by omega),hr,obs,hb,w64 (x:=((bl 64 z:Nat):Int)) (by omega) (by omega),hS,w64 (by omega) (by omega)];congr 1
theorem r1b (n:Nat) {x:Nat} (h:x<18446744073709551616):e0d (n+1) (x:Int)=some ((bl 64 x:Nat):Int):=by
 have s32:∀z:Nat,shrI .u64 (z:Int) (32:Int)=((z / 4294967296:Nat):Int):=fun z=>shrN z 32 (by decide)
 have s16:∀z:Nat,shrI .u64 (z:Int) (16:Int)=((z / 65536:Nat):Int):=fun z=>shrN z 16 (by decide)
 have s8:∀z:Nat,shrI .u64 (z:Int) (8:Int)=((z / 256:Nat):Int):=fun z=>shrN z 8 (by decide)
 have h':=h;rw[a2z];simp only[s32,s16,s8,tfd];by_cases c5:4294967296≤x
 ·rw[if_pos (by omega)];by_cases c4:65536≤x / 4294967296
  ·rw[if_pos (by omega)];by_cases c3:256≤x / 4294967296 / 65536
   ·rw[if_pos (by omega)];exact n0t (s:=56) (K:=72057594037927936) rfl (by omega) rfl (by omega) (.inl (by omega)) h (by decide)
   ·rw[if_neg (by omega)];exact n0t (s:=48) (K:=281474976710656) rfl (by omega) rfl (by omega) (.inl (by omega)) h (by decide)
  ·rw[if_neg (by omega)];by_cases c3:256≤x / 4294967296
   ·rw[if_pos (by omega)];exact n0t (s:=40) (K:=1099511627776) rfl (by omega) rfl (by omega) (.inl (by omega)) h (by decide)
   ·rw[if_neg (by omega)];exact n0t (s:=32) (K:=4294967296) rfl (by omega) rfl (by omega) (.inl (by omega)) h (by decide)
 ·rw[if_neg (by omega)];by_cases c4:65536≤x
  ·rw[if_pos (by omega)];by_cases c3:256≤x / 65536
   ·rw[if_pos (by omega)];exact n0t (s:=24) (K:=16777216) rfl (by omega) rfl (by omega) (.inl (by omega)) h (by decide)
   ·rw[if_neg (by omega)];exact n0t (s:=16) (K:=65536) rfl (by omega) rfl (by omega) (.inl (by omega)) h (by decide)
  ·rw[if_neg (by omega)];by_cases c3:256≤x
   ·rw[if_pos (by omega)];exact n0t (s:=8) (K:=256) rfl (by omega) rfl (by omega) (.inl (by omega)) h (by decide)
   ·rw[if_neg (by omega)];exact n0t (s:=0) (K:=1) rfl (by omega) rfl (by omega) (.inr rfl) h (by decide)
theorem x1o (n:Nat) {x:Nat} (h:x<340282366920938463463374607431768211456):t0v (n+2) (ofN x)=some ((bl 128 x:Nat):Int):=by
 rw[l1n];show tif (!decide (((x / 18446744073709551616:Nat):Int)=0)) (a0b (e0d (n+1) ((x / 18446744073709551616:Nat):Int)) fun r0=>some (IntKind.wrap .i64 (64+r0))) (a0b (e0d (n+1) ((x % 18446744073709551616:Nat):Int)) fun r1=>some r1)=_;have hq:x / 18446744073709551616<18446744073709551616:=Nat.div_lt_of_lt_mul h;rw[tfn,tfd];by_cases c:x / 18446744073709551616=0
 ·have hx:x<18446744073709551616:=by omega
  rw[if_pos (by omega),r1b n (Nat.mod_lt _ (by decide)),obs,Nat.mod_eq_of_lt hx,y1j (k:=64) (m:=128) hx h]
 ·have hle:=(k0a 64 (x / 18446744073709551616) hq).2.2;rw[if_neg (by omega),r1b n hq,obs,w64 (by omega) (by omega),y1k (k:=128) (s:=64) h (by omega)];rw[←y1j (k:=128) (m:=64) (x:=x / 18446744073709551616) (Nat.lt_of_lt_of_le hq (by decide)) hq];congr 1
theorem or_ofN {x y:Nat} (hx:x<340282366920938463463374607431768211456) (hy:y<340282366920938463463374607431768211456):((orI .u64 (ofN x).1 (ofN y).1,orI .u64 (ofN x).2 (ofN y).2):Wd)=ofN (x ||| y):=by
 show ((orI .u64 ((x / 18446744073709551616:Nat):Int) ((y / 18446744073709551616:Nat):Int),orI .u64 ((x % 18446744073709551616:Nat):Int) ((y % 18446744073709551616:Nat):Int)):Wd)=((((x ||| y) / 18446744073709551616:Nat):Int),(((x ||| y) % 18446744073709551616:Nat):Int));have e1:(x ||| y) / 18446744073709551616=x / 18446744073709551616 ||| y / 18446744073709551616:=Nat.or_div_two_pow (n:=64)
 have e2:(x ||| y) % 18446744073709551616=x % 18446744073709551616 ||| y % 18446744073709551616:=Nat.or_mod_two_pow (n:=64)
 rw[e1,e2,orN (Nat.div_lt_of_lt_mul hx) (Nat.div_lt_of_lt_mul hy),orN (Nat.mod_lt _ (by decide)) (Nat.mod_lt _ (by decide))]
theorem one_ofN:((0,1):Wd)=ofN 1:=rfl
theorem zero_ofN:((0,0):Wd)=ofN 0:=rfl
theorem whole_l3 (n:Nat) {d A:Nat} (hd:0<d) (hA:A<340282366920938463463374607431768211456) (hdM:d<340282366920938463463374607431768211456) (s4:Wd):∀(k f a q:Nat),q+a / d=A / d→a≤A→a<d*2^k→2^k ∣ q→(k=0∨d*2^(k-1)<340282366920938463463374607431768211456)→k≤128→k<f →
  i0a (n+3) f (ofN a,ofN d,s4,ofN q,(k:Int)-1,())=some (.inl (s4,ofN (A / d),())):=by
 intro k;induction k with
 | zero =>
  intro f a q h1 h2 h3 h4 h5 h6 hf;obtain ⟨f,rfl⟩:∃g,f=g+1:=⟨f-1,by omega⟩;rw[j0r,decide_eq_false (by omega),tff];rw[Nat.pow_zero,Nat.mul_one] at h3;rw[Nat.div_eq_of_lt h3,Nat.add_zero] at h1;rw[h1]
 | succ k ih =>
  intro f a q h1 h2 h3 h4 h5 h6 hf;obtain ⟨f,rfl⟩:∃g,f=g+1:=⟨f-1,by omega⟩;have h5':d*2^k<340282366920938463463374607431768211456:=by
   rcases h5 with h | h
   ·cases h
   ·exact h
  have hk5:k=0∨d*2^(k-1)<340282366920938463463374607431768211456:=by
   rcases Nat.eq_zero_or_pos k with e | e
   ·exact .inl e
   ·refine .inr (Nat.lt_of_le_of_lt (Nat.mul_le_mul_left d (Nat.pow_le_pow_right (by decide) (Nat.sub_le _ _))) h5')
  have hpk:2^k<340282366920938463463374607431768211456:=Nat.lt_of_lt_of_le (Nat.pow_lt_pow_right (a:=2) (n:=128) (by decide) (by omega)) (by decide);have eb:((k+1:Nat):Int)-1=(k:Int):=by omega
  have hq2:2^k ∣ q:=Nat.dvd_trans (Nat.pow_dvd_pow 2 (Nat.le_succ k)) h4;rw[j0r,eb,decide_eq_true (by omega),tft,s0q (n+2) d k (by omega) h5',obs,i1c (n+2) (by omega) h5',obs,w64 (by omega) (by omega),tfd];by_cases hlt:a<d*2^k
  ·rw[if_pos hlt];exact ih f a q h1 h2 hlt hq2 hk5 (by omega) (by omega)
  ·rw[if_neg hlt,o0n n (by omega) (by omega),obs,c1y,obs,one_ofN,s0q (n+2) 1 k (by omega) (by rw[Nat.one_mul];exact hpk),obs,Nat.one_mul];have hqA:q≤A / d:=by rw[←h1];exact Nat.le_add_right _ _
   have hqM:q<340282366920938463463374607431768211456:=Nat.lt_of_le_of_lt (Nat.le_trans hqA (Nat.div_le_self _ _)) hA;rw[or_ofN hqM hpk,or_pow h4];refine ih f (a-d*2^k) (q+2^k) ?_ (by omega) ?_ (Nat.dvd_add hq2 (Nat.dvd_refl _)) hk5 (by omega) (by omega)
   ·rw[div_part hd (by omega)];exact h1
   ·rw[Nat.pow_succ,←Nat.mul_assoc] at h3;omega
theorem s0p (n:Nat) {a d:Nat} (ha:a<340282366920938463463374607431768211456) (hd:0<d) (hdM:d<340282366920938463463374607431768211456):q0p (n+4) (ofN a) (ofN d)=some (ofN (a / d)):=by
 have la:=(k0a 128 a ha).2.2;have ld:=(k0a 128 d hdM).2;have ld1:=(ld.1 hd).1;rw[g1j,x1o (n+1) ha,obs,x1o (n+1) hdM,obs,w64 (by omega) (by omega)];by_cases h:bl 128 d≤bl 128 a
 ·have h0:0<a:=by
   rcases Nat.eq_zero_or_pos a with e | e
   ·rw[e,a1o] at h;omega
   ·exact e
  have e:((bl 128 a:Nat):Int)-((bl 128 d:Nat):Int)=((bl 128 a-bl 128 d+1:Nat):Int)-1:=by omega
  rw[e,zero_ofN,whole_l3 n hd ha hdM _ (bl 128 a-bl 128 d+1) a0c a 0 (by omega) (Nat.le_refl _) (bl_over ha hdM hd) (Nat.dvd_zero _) (.inr (by rw[Nat.add_sub_cancel];exact bl_up ha hdM (by omega) h0)) (by omega) (by unfold a0c;omega),obs,a0r]
 ·have hlt:=bl_less ha hdM (by omega);rw[show a0c=(2^70-1)+1 from rfl,j0r,decide_eq_false (by omega),tff,obs,a0r,Nat.div_eq_of_lt hlt];rfl
theorem x1w (n:Nat) {A B f:Nat} (ha0:0<A) (ha:A<340282366920938463463374607431768211456) (hb0:0<B) (hb:B<340282366920938463463374607431768211456) (s4:Wd) (tw:Int):d0x (n+3) (f+1) (ofN A,ofN B,s4,tw,()) =
  if od B<A then d0x (n+3) f (ofN (od B),ofN (A-od B),s4,tw,()) else d0x (n+3) f (ofN A,ofN (od B-A),s4,tw,()):=by
 have ht:=(o0q hb0 hb).1;have hle:od B<340282366920938463463374607431768211456:=Nat.lt_of_le_of_lt (od_le B) hb;rw[m0o,f0x,obs,tfn,decide_eq_false (by omega),tff,v0q (n+1) hb0 hb,obs,u0w (n+2) B _ ht hb,obs]
 change a0b (h0w (n+3) (ofN (od B)) (ofN A)) _=_
 rw[i1c (n+2) hle ha,obs,tfd];by_cases h:od B<A
 ·rw[if_pos h,if_pos h]
  change a0b (j0s (n+3) (ofN A) (ofN (od B))) _=_
  rw[o0n n ha (by omega),obs];rfl
 ·rw[if_neg h,if_neg h]
  change a0b (j0s (n+3) (ofN (od B)) (ofN A)) _=_
  rw[o0n n hle (by omega),obs]
theorem gcd_l5 (n:Nat) (s4:Wd) (tw:Int):∀(k f A B:Nat),0<A→A<340282366920938463463374607431768211456→A % 2=1→B<340282366920938463463374607431768211456→B % 2=0→A*B<2^k→k<f →
  d0x (n+3) f (ofN A,ofN B,s4,tw,())=some (.inl (ofN (Nat.gcd A B),s4,tw,())):=by
 intro k;induction k with
 | zero =>
  intro f A B h1 h2 h3 h4 h5 h6 hf;obtain ⟨f,rfl⟩:∃g,f=g+1:=⟨f-1,by omega⟩;have:B=0:=by
   rcases Nat.eq_zero_or_pos B with e | e
   ·exact e
   ·have:=Nat.mul_pos h1 e;omega
  subst this;rw[m0o,f0x,obs,tfn,decide_eq_true rfl,tft,Nat.gcd_zero_right]
 | succ k ih =>
  intro f A B h1 h2 h3 h4 h5 h6 hf;obtain ⟨f,rfl⟩:∃g,f=g+1:=⟨f-1,by omega⟩;rcases Nat.eq_zero_or_pos B with e | hB
  ·subst e;rw[m0o,f0x,obs,tfn,decide_eq_true rfl,tft,Nat.gcd_zero_right]
  ·have hev:=od_even hB h4 h5;have hod:=(o0q hB h4).2.2;have hpos:=f2g hB h4;have hg:=g2w h3 hB h4;have hp:A*od B<2^k:=by
    have:A*(2*od B)≤A*B:=Nat.mul_le_mul_left A hev;rw[Nat.mul_left_comm] at this;rw[Nat.pow_succ] at h6;omega
   rw[x1w n h1 h2 hB h4];by_cases h:od B<A
   ·rw[if_pos h,ih f (od B) (A-od B) hpos (by omega) hod (by omega) (by omega) (Nat.lt_of_le_of_lt (by rw[Nat.mul_comm A];exact Nat.mul_le_mul_left _ (Nat.sub_le _ _)) hp) (by omega),c1q (by omega),Nat.gcd_comm,hg]
   ·rw[if_neg h,ih f A (od B-A) h1 h2 h3 (by omega) (by omega) (Nat.lt_of_le_of_lt (Nat.mul_le_mul_left _ (Nat.sub_le _ _)) hp) (by omega),c1q (by omega),hg]
theorem gcd_any (n:Nat) (s4:Wd) (tw:Int) {A B:Nat} (h1:0<A) (h2:A<340282366920938463463374607431768211456) (h3:A % 2=1) (hB:0<B) (h4:B<340282366920938463463374607431768211456):d0x (n+3) a0c (ofN A,ofN B,s4,tw,())=some (.inl (ofN (Nat.gcd A B),s4,tw,())):=by
 have hod:=(o0q hB h4).2.2;have hpos:=f2g hB h4;have hle:=od_le B;have hg:=g2w h3 hB h4;have hm:∀ {x y:Nat},x<340282366920938463463374607431768211456→y<340282366920938463463374607431768211456→x*y<2^256:=fun hx hy=>Nat.lt_of_lt_of_le (Nat.mul_lt_mul'' hx hy) (by decide)
 rw[show a0c=(2^70-1)+1 from rfl,x1w n h1 h2 hB h4];by_cases h:od B<A
 ·rw[if_pos h,gcd_l5 n s4 tw 256 _ (od B) (A-od B) hpos (by omega) hod (by omega) (by omega) (hm (by omega) (by omega)) (by decide),c1q (by omega),Nat.gcd_comm,hg]
 ·rw[if_neg h,gcd_l5 n s4 tw 256 _ A (od B-A) h1 h2 h3 (by omega) (by omega) (hm (by omega) (by omega)) (by decide),c1q (by omega),hg]
theorem e2o (n:Nat) {x y:Nat} (hx:x<340282366920938463463374607431768211456) (hy:y<340282366920938463463374607431768211456):d1y (n+4) (ofN x) (ofN y)=some (ofN (Nat.gcd x y)):=by
 rw[p1v,f0x,obs,or_ofN hx hy];by_cases h0:x=0
 ·subst h0;rw[decide_eq_true rfl,tft,Nat.gcd_zero_left,Nat.zero_or]
 rw[decide_eq_false h0,tff,f0x,obs];by_cases h1:y=0
 ·subst h1;rw[decide_eq_true rfl,tft,Nat.gcd_zero_right,Nat.or_zero]
 have hx0:0<x:=by omega
 have hy0:0<y:=by omega
 obtain ⟨a1,a2,a3⟩:=o0q hx0 hx;obtain ⟨b1,b2,b3⟩:=o0q hy0 hy;have hle:od x<340282366920938463463374607431768211456:=Nat.lt_of_le_of_lt (od_le x) hx;rw[decide_eq_false h1,tff,v0q (n+1) hx0 hx,obs,v0q (n+1) hy0 hy,obs,obs,u0w (n+2) x _ a1 hx,obs]
 change a0b (d0x (n+3) a0c (ofN (od x),ofN y,_,_,())) _=_
 rw[gcd_any n _ _ (f2g hx0 hx) hle a3 hy0 hy,obs,a0r];have e:(if ((tz 128 y:Nat):Int)<((tz 128 x:Nat):Int) then ((tz 128 y:Nat):Int) else ((tz 128 x:Nat):Int))=((min (tz 128 x) (tz 128 y):Nat):Int):=by
  split<;>omega
 have hg:=g2u hx0 hx hy0 hy;have hlt:Nat.gcd x y<340282366920938463463374607431768211456:=Nat.lt_of_le_of_lt (Nat.gcd_le_left y hx0) hx;simp only;rw[e,s0q (n+2) _ _ (by omega) (by rw[←hg];exact hlt),obs,←hg]
theorem lo_ofN {b:Nat} (h:b<18446744073709551616):(((0:Int),(b:Int)):Wd)=ofN b:=by
 unfold ofN;rw[Nat.div_eq_of_lt h,Nat.mod_eq_of_lt h];rfl
def redV (x y:Nat):(Wd×Wd)×Int:=if y=0 then (((0,0),(0,0)),1) else ((ofN (x / Nat.gcd x y),ofN (y / Nat.gcd x y)),0)
theorem p1u (n:Nat) {x y:Nat} (hx:x<340282366920938463463374607431768211456) (hy:y<340282366920938463463374607431768211456):s0r (n+5) (ofN x) (ofN y)=some (redV x y):=by
 rw[d1x,f0x,obs,tfd];unfold redV;by_cases h:y=0
 ·rw[if_pos h,if_pos h]
 ·have hg:0<Nat.gcd x y:=Nat.gcd_pos_of_pos_right x (by omega);have hl:Nat.gcd x y<340282366920938463463374607431768211456:=Nat.lt_of_le_of_lt (Nat.gcd_le_right x (by omega)) hy;rw[if_neg h,if_neg h,e2o n hx hy,obs,s0p n hx hg hl,obs,s0p n hy hg hl,obs]
def rateV (a:Wd) (ms:Int):(Wd×Wd)×Int :=
 if ms=0 then (((0,0),(0,0)),12) else if wv a*1000<340282366920938463463374607431768211456 then redV (wv a*1000).toNat ms.toNat else (((0,0),(0,0)),1)
theorem a2e {a:Wd} (ha:WdOk a) {ms:Int} (hm:0≤ms∧ms≤18446744073709551615) (h:wv a*1000<340282366920938463463374607431768211456):mkW (wv a*1000)=ofN (wv a*1000).toNat∧(wv a*1000).toNat<340282366920938463463374607431768211456∧(((0:Int),ms):Wd)=ofN ms.toNat∧ms.toNat<340282366920938463463374607431768211456:=by
 obtain ⟨h1,h2⟩:=n0k ha;have e:wv a*1000=(((wv a*1000).toNat:Nat):Int):=by omega
 refine ⟨?_,by omega,?_,by omega⟩
 ·conv=>lhs;rw[e]
  exact u1y _
 ·rw[←lo_ofN (by omega)];congr 1;omega
theorem a2d (n:Nat) {a:Wd} (ha:WdOk a) {ms:Int} (hm:0≤ms∧ms≤18446744073709551615):z0m (n+6) a ms=some (rateV a ms):=by
 rw[l1q,tfd];unfold rateV;by_cases h0:ms=0
 ·rw[if_pos h0,if_pos h0]
 rw[if_neg h0,if_neg h0,i1b (n+3) ha 1000 (by omega),obs];unfold o1x;by_cases h:wv a*1000<340282366920938463463374607431768211456
 ·obtain ⟨p1,p2,p3,p4⟩:=a2e ha hm h;rw[if_pos h,if_pos h];simp only[decide_true,Bool.not_true,tff];rw[c1y,obs,p1,p3,p1u n p2 p4,obs]
 ·rw[if_neg h,if_neg h];rfl
section
variable {del:Ev×Unit→Option Bool} {p:Ev→Bool} {L:List Ev} (hd:∀x∈L,del (x,())=some (p x))
include hd
end
def WidP (w:Int):Prop:=1≤w∧w≤1099511627776
instance (w:Int):Decidable (WidP w):=by unfold WidP;infer_instance
def RngP (a b:Int):Prop:=0≤a∧b≤35184372088832∧a<b
instance (a b:Int):Decidable (RngP a b):=by unfold RngP;infer_instance
def q0e (a b w:Int):Int×(Int×Int):=if WidP w∧RngP a b then (if a % w=0∧b % w=0 then (a / w,(b / w,0)) else (0,(0,10))) else (0,(0,1))
theorem d2y {w:Int} (a b:Int) (hw:WidP w) :
  (tif (decide (a<(0:Int))) (some ((0:Int),((0:Int),(1:Int)))) (
  tif (decide ((35184372088832:Int)<b)) (some ((0:Int),((0:Int),(1:Int)))) (
  tif (decide (b≤a)) (some ((0:Int),((0:Int),(1:Int)))) (
  tif (decide (w=(0:Int))) none (
  tif (!(decide ((Int.tmod a w)=(0:Int)))) (some ((0:Int),((0:Int),(10:Int)))) (
  tif (decide (w=(0:Int))) none (
  tif (!(decide ((Int.tmod b w)=(0:Int)))) (some ((0:Int),((0:Int),(10:Int)))) (
  tif (decide (w=(0:Int))) none (
  tif (decide (w=(0:Int))) none (
  some ((IntKind.wrap .i64 (Int.tdiv a w)),((IntKind.wrap .i64 (Int.tdiv b w)),(0:Int)))))))))))))=some (q0e a b w):=by
 obtain ⟨w1,w2⟩:=hw;unfold q0e;simp only[tfd,tfn];by_cases h:RngP a b
 ·obtain ⟨h1,h2,h3⟩:=h;have qa:0≤a / w∧a / w≤a:=⟨Int.ediv_nonneg h1 (by omega),Int.ediv_le_self _ h1⟩;have qb:0≤b / w∧b / w≤b:=⟨Int.ediv_nonneg (by omega) (by omega),Int.ediv_le_self _ (by omega)⟩;rw[if_neg (by omega),if_neg (by omega),if_neg (by omega),if_neg (by omega),if_pos (show WidP w∧RngP a b from ⟨⟨w1,w2⟩,h1,h2,h3⟩),s0d h1,s0d (show 0≤b by omega),v0k h1,v0k (show 0≤b by omega),w64 (by omega) (by omega),w64 (by omega) (by omega)];by_cases ha:a % w=0
  ·rw[if_pos ha,if_neg (by omega)];by_cases hb:b % w=0
   ·rw[if_pos hb,if_neg (by omega),if_neg (by omega),if_pos ⟨ha,hb⟩]
   ·rw[if_neg hb,if_neg (fun k=>hb k.2)]
  ·rw[if_neg ha,if_neg (fun k=>ha k.1)]
 ·rw[if_neg (show ¬(WidP w∧RngP a b) from fun k=>h k.2)];by_cases h1:a<0
  ·rw[if_pos h1]
  rw[if_neg h1];by_cases h2:35184372088832<b
  ·rw[if_pos h2]
  rw[if_neg h2,if_pos (by unfold RngP at h;omega)]
theorem y0w (n:Nat) (a b w:Int):i0m (n+3) a b w=some (q0e a b w):=by
 rw[y1w,c1z,wi_in,obs,obs,tfn,tfd];by_cases h:WidP w
 ·rw[if_pos (show 1≤w∧w≤1099511627776 from h)];exact d2y a b h
 ·rw[if_neg (show ¬(1≤w∧w≤1099511627776) from h)];unfold q0e;rw[if_neg (fun k=>h k.1)]
noncomputable def oneV (s:Sta) (k a b:Int):Int :=
 if (q0e a b (j0j s.1 k)).2.2=0 then (if (q0e a b (j0j s.1 k)).1<(oldV s.2.1 (j0j s.1 k) (tierN s.1 k)).1 then 11 else 0) else (q0e a b (j0j s.1 k)).2.2
theorem kept_ok {s:Sta} (h:StaOk s) {k:Int} (h0:0≤k) (h2:k≤2):keptV s k=((oldV s.2.1 (j0j s.1 k) (tierN s.1 k)).1,(s.2.1 / j0j s.1 k,0)):=by
 unfold keptV;rw[if_pos h,if_neg (by omega)]
theorem tier3 {t:Int} (h1:1≤t) (h3:t≤3):IntKind.wrap .i64 (t-1)=t-1:=w64 (by omega) (by omega)
theorem x0n (n:Nat) {s:Sta} (hw:StaW s) (h:StaOk s) {t:Int} (h1:1≤t) (h3:t≤3) (a b:Int):x0o (n+17) s t a b=some (oneV s (t-1) a b):=by
 rw[p1x,tier3 h1 h3];have hk:=kept_ok h (k:=t-1) (by omega) (by omega);unfold oneV;rcases (by omega:t=1∨t=2∨t=3) with e | e | e<;>subst e
 ·rw[show ((1:Int)-1)=0 from rfl] at hk ⊢;rw[decide_eq_true (show (0:Int)=0 from rfl),tft]
  change a0b (i0m _ a b (j0j s.1 0)) _=_
  rw[y0w (n+13),obs,tfn,tfd,n1p n hw 0,hk,obs];by_cases hs:(q0e a b (j0j s.1 0)).2.2=0
  ·rw[if_pos hs,if_pos hs,decide_eq_true rfl,tft,tfd];split<;>rfl
  ·rw[if_neg hs,if_neg hs]
 ·rw[show ((2:Int)-1)=1 from rfl] at hk ⊢;rw[decide_eq_false (show ¬((1:Int)=0) by decide),tff];rw[decide_eq_true (show (1:Int)=1 from rfl),tft]
  change a0b (i0m _ a b (j0j s.1 1)) _=_
  rw[y0w (n+13),obs,tfn,tfd,n1p n hw 1,hk,obs];by_cases hs:(q0e a b (j0j s.1 1)).2.2=0
  ·rw[if_pos hs,if_pos hs,decide_eq_true rfl,tft,tfd];split<;>rfl
  ·rw[if_neg hs,if_neg hs]
 ·rw[show ((3:Int)-1)=2 from rfl] at hk ⊢;rw[decide_eq_false (show ¬((2:Int)=0) by decide),tff];rw[decide_eq_false (show ¬((2:Int)=1) by decide),tff];rw[decide_eq_true (show (2:Int)=2 from rfl),tft]
  change a0b (i0m _ a b (j0j s.1 2)) _=_
  rw[y0w (n+13),obs,tfn,tfd,n1p n hw 2,hk,obs];by_cases hs:(q0e a b (j0j s.1 2)).2.2=0
  ·rw[if_pos hs,if_pos hs,decide_eq_true rfl,tft,tfd];split<;>rfl
  ·rw[if_neg hs,if_neg hs]
theorem span_why (a b w:Int):(q0e a b w).2.2=0∨(q0e a b w).2.2=1∨(q0e a b w).2.2=10:=by
 unfold q0e;split
 ·split
  ·exact .inl rfl
  ·exact .inr (.inr rfl)
 ·exact .inr (.inl rfl)
theorem f2f (s:Sta) (k a b:Int):oneV s k a b=0∨oneV s k a b=1∨oneV s k a b=10∨oneV s k a b=11:=by
 unfold oneV;rcases span_why a b (j0j s.1 k) with h | h | h<;>rw[h]
 ·rw[if_pos rfl];split
  ·exact .inr (.inr (.inr rfl))
  ·exact .inl rfl
 ·exact .inr (.inl rfl)
 ·exact .inr (.inr (.inl rfl))
noncomputable def f0b (s:Sta) (a b:Int):Nat→Int→Int→Int×Int
 | 0,_,why=>(0,why)
 | d+1,t,why=>if oneV s (t-1) a b=0 then (t,0) else if oneV s (t-1) a b=1 then (0,1) else f0b s a b d (t+1) (if oneV s (t-1) a b=11 then 11 else why)
theorem d2a {s:Sta} {a b t:Int} (e:oneV s (t-1) a b=0) (d:Nat) (why:Int):f0b s a b (d+1) t why=(t,0):=by
 conv=>lhs;unfold f0b
 rw[if_pos e]
theorem c2z {s:Sta} {a b t:Int} (e:oneV s (t-1) a b=1) (d:Nat) (why:Int):f0b s a b (d+1) t why=(0,1):=by
 conv=>lhs;unfold f0b
 rw[if_neg (by omega),if_pos e]
theorem w1m {s:Sta} {a b t:Int} (e:oneV s (t-1) a b=10) (d:Nat) (why:Int):f0b s a b (d+1) t why=f0b s a b d (t+1) why:=by
 conv=>lhs;unfold f0b
 rw[if_neg (by omega),if_neg (by omega),if_neg (by omega)]
theorem w1l {s:Sta} {a b t:Int} (e:oneV s (t-1) a b=11) (d:Nat) (why:Int):f0b s a b (d+1) t why=f0b s a b d (t+1) 11:=by
 conv=>lhs;unfold f0b
 rw[if_neg (by omega),if_neg (by omega),if_pos e]
theorem g1l (n:Nat) {s:Sta} (hw:StaW s) (h:StaOk s) (a b:Int):∀(d f:Nat) (t why:Int),1≤t→t+d=4→d<f →
  d0i (n+17) f (a,b,s,why,t,())=some (if (f0b s a b d t why).2=0 then .inr (f0b s a b d t why) else if (f0b s a b d t why).2=1 then .inr (f0b s a b d t why) else .inl ((f0b s a b d t why).2,()))∨(why≠10∧why≠11):=by
 intro d;induction d with
 | zero =>
  intro f t why h1 ht hf;obtain ⟨f,rfl⟩:∃g,f=g+1:=⟨f-1,by omega⟩;by_cases hy:why≠10∧why≠11
  ·exact .inr hy
  refine .inl ?_;rw[k0n,decide_eq_false (by omega),tff];unfold f0b;rw[if_neg (by simp only;omega),if_neg (by simp only;omega)]
 | succ d ih =>
  intro f t why h1 ht hf;obtain ⟨f,rfl⟩:∃g,f=g+1:=⟨f-1,by omega⟩;by_cases hy:why≠10∧why≠11
  ·exact .inr hy
  refine .inl ?_;rw[k0n,decide_eq_true (by omega),tft,x0n n hw h h1 (by omega),obs,w64 (by omega) (by omega)];simp only[tfd];rcases f2f s (t-1) a b with e | e | e | e
  ·rw[d2a e,e,if_pos rfl,if_pos rfl]
  ·rw[c2z e,e,if_neg (by decide),if_neg (by decide),if_neg (by decide),if_neg (by decide),if_pos rfl]
  ·rw[w1m e,e,if_neg (by decide),if_pos rfl];exact (ih f (t+1) why (by omega) (by omega) (by omega)).resolve_right hy
  ·rw[w1l e,e,if_neg (by decide),if_neg (by decide),if_pos rfl];exact (ih f (t+1) 11 (by omega) (by omega) (by omega)).resolve_right (by decide)
theorem u1l (n:Nat) {s:Sta} (hw:StaW s) (h:StaOk s) (a b:Int):m0p (n+18) s a b=some (f0b s a b 3 1 10):=by
 rw[x0m]
 change a0b (d0i (n+17) a0c (a,b,s,10,1,())) _=_
 rw[(g1l n hw h a b 3 a0c 1 10 (by decide) rfl (by unfold a0c;omega)).resolve_right (by decide),obs];split
 ·rfl
 ·split
  ·rfl
  ·rename_i h0 h1;rw[a0r];have hz:(f0b s a b 3 1 10).1=0:=by
    have key:∀(d:Nat) (t why:Int),(f0b s a b d t why).2≠0→(f0b s a b d t why).1=0:=by
     intro d;induction d with
     | zero=>intro t why _;rfl
     | succ d ih =>
      intro t why;unfold f0b;split
      ·intro k;exact absurd rfl k
      ·split
       ·intro _;rfl
       ·exact ih _ _
    exact key 3 1 10 h0
   exact congrArg some (Prod.ext hz.symm rfl)
noncomputable def e0j (s:Sta) (t a b:Int):Int×Int :=
 if StaOk s then (if t<0∨3<t then (0,1) else if t=0 then f0b s a b 3 1 10 else if oneV s (t-1) a b=0 then (t,0) else (0,oneV s (t-1) a b)) else (0,2)
theorem j1a (n:Nat) {s:Sta} (hw:StaW s) (t a b:Int):t0x (n+19) s t a b=some (e0j s t a b):=by
 rw[l1u,m0g (n+4) hw,obs,tfn,tfd];unfold e0j;by_cases h:StaOk s
 case neg=>rw[if_neg h,if_neg h];rfl
 rw[if_pos h,if_pos h,if_pos rfl];simp only[tfd,tfn];by_cases h0:t<0
 ·rw[if_pos h0,if_pos (.inl h0)]
 by_cases h3:3<t
 ·rw[if_neg h0,if_pos h3,if_pos (.inr h3)]
 rw[if_neg h0,if_neg h3,if_neg (show ¬(t<0∨3<t) by omega)];by_cases hz:t=0
 ·rw[if_pos hz,if_pos hz,u1l n hw h,obs]
 ·rw[if_neg hz,if_neg hz,x0n (n+1) hw h (by omega) (by omega),obs];by_cases ho:oneV s (t-1) a b=0
  ·rw[if_pos ho,if_pos ho]
  ·rw[if_neg ho,if_neg ho]
end Go.Proofs.YtagnkfbpgkckiaaGreatDoor
