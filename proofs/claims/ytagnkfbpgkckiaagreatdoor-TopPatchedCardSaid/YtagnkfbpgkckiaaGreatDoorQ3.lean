/-
 Plain proofs about the functions of this seat, part 3 of 3.
-/
import Derived.Test.YtagnkfbpgkckiaaGreatDoorQ2
namespace Go.Proofs.YtagnkfbpgkckiaaGreatDoor
open Go.Flat Go.Plim
set_option linter.unusedVariables false
set_option linter.unusedSimpArgs false
abbrev Chg:=Int×List UInt8
def l0g (a:List (List UInt8)) (from_:Int):Nat→List (List UInt8)→List Chg
 | _,[]=>[]
 | i,x::r=>if a[i]? = some x then l0g a from_ (i+1) r else (from_+(i:Int),x)::l0g a from_ (i+1) r
theorem a2d (a:List (List UInt8)) (from_:Int):∀(r:List (List UInt8)) (i:Nat),(l0g a from_ i r).length≤r.length
 | [],_=>by simp[l0g]
 | x::r,i=>by
  have:=a2d a from_ r (i+1);unfold l0g;split
  ·rw[List.length_cons];omega
  ·rw[List.length_cons,List.length_cons];omega
theorem diff_l3 (n:Nat) (a b:List (List UInt8)) (from_:Int) (hf0:0≤from_) (hf1:from_≤2000000000000) (hb:b.length≤10000000):∀(rest pre:List (List UInt8)) (f:Nat) (out:List Chg) (i:Int),b=pre++rest→i=pre.length→out.length≤pre.length →
  g0z n (f+rest.length+1) (a,from_,out,b,(b.length:Int),i,())=some (.inl (out++l0g a from_ pre.length rest,())):=by
 intro rest;induction rest with
 | nil =>
  intro pre f out i h hi ho;rw[s0l,tfd,if_neg (idxe h hi rfl)];simp[l0g]
 | cons x rest ih =>
  intro pre f out i h hi ho;have hlen:=congrArg List.length h;simp at hlen;subst hi;have hadd:(out++[(from_+(pre.length:Int),x)]).length≤(pre++[x]).length:=by simp;omega
  have i1:=ih (pre++[x]) f (out++[(from_+(pre.length:Int),x)]) ((pre.length:Int)+1) (idxl h) (idxs rfl) hadd;have i2:=ih (pre++[x]) f out ((pre.length:Int)+1) (idxl h) (idxs rfl) (by simp;omega);rw[show (pre++[x]).length=pre.length+1 by simp] at i1 i2;rw[show f+(x::rest).length+1=(f+rest.length+1)+1 by simp;omega,s0l,tfd,if_pos (idx h rfl rfl),c0f h rfl,obs,tfd,w64 (x:=from_+(pre.length:Int)) (by omega) (by omega),w64 (x:=(pre.length:Int)+1) (by omega) (by omega)];by_cases hk:(a.length:Int)≤(pre.length:Int)
  ·rw[if_pos hk,tfd,if_pos (by omega),i1,l0g,if_neg (by rw[List.getElem?_eq_none (by omega)];simp),List.append_assoc];rfl
  ·have hlt:pre.length<a.length:=by omega
   have hg:a[pre.length]? = some a[pre.length]:=List.getElem?_eq_getElem hlt;rw[if_neg hk,b1o hg,obs,tfn,l0g,hg];by_cases he:a[pre.length]=x
   ·rw[he,beq_self_eq_true,tft,i2,if_pos rfl]
   ·rw[beq_eq_false_iff_ne.2 he,tff,tfd,if_pos (by omega),i1,if_neg (by simpa using he),List.append_assoc];rfl
theorem diff_val (n:Nat) (a b:List (List UInt8)) (from_:Int) (hf0:0≤from_) (hf1:from_≤2000000000000) (hb:b.length≤10000000):b1c (n+1) a b from_=some (l0g a from_ 0 b):=by
 rw[o1g];have:=diff_l3 n a b from_ hf0 hf1 hb b [] (a0b-b.length-1) [] 0 rfl rfl (by simp);rw[←lfu (by omega)] at this;rw[this,obs,a0y];rfl
theorem t1l (a:List (List UInt8)) (from_:Int):∀(r:List (List UInt8)) (i:Nat),(∀j,j<r.length→a[i+j]? = r[j]?)↔l0g a from_ i r=[]
 | [],i=>by simp[l0g]
 | x::r,i=>by
  have ih:=t1l a from_ r (i+1);rw[l0g];constructor
  ·intro h;have h0:=h 0 (by simp);rw[if_pos (by simpa using h0)];exact ih.1 fun j hj=>by have:=h (j+1) (by simp;omega);rw[show i+(j+1)=i+1+j by omega] at this;simpa using this
  ·intro h j hj;by_cases k:a[i]? = some x
   ·rw[if_pos k] at h;cases j with
    | zero=>simpa using k
    | succ j =>
     have:=ih.2 h j (by simp at hj;omega);rw[show i+(j+1)=i+1+j by omega];simpa using this
   ·rw[if_neg k] at h;cases h
structure Goes (s:Sta) (l:List Lab) (e:Ev):Prop where
 st:StaOk s
 lab:LabOk l
 ev:EvOk e
 lo:mk s≤e.1
 hi:e.1<mk s+s.1.2.1.1
inductive PlaceAt (s:Sta) (l:List Lab) (e:Ev):Nat→Ser→Bool→Prop
 | found {i:Nat} {x:Ser} (hf:z0i s l=some i) (hx:s.2.2.2[i]? = some x) (hl:x.1=l) (hlv:LvX s x) (ht:x.2.1<e.1):PlaceAt s l e i x false
 | room {i:Nat} (hf:z0i s l=none) (hs:e.2.2.2=false) (hr:roomV s=some i):PlaceAt s l e i (l,(-1,(r0w,(emp s.1,s0)))) true
def j0n (c:Conf) (k:Int):Int:=if k=0 then c.2.1.1 else if k=1 then c.2.1.2.1 else c.2.1.2.2
def tierN (c:Conf) (k:Int):Int:=if k=0 then c.2.2.1.1 else if k=1 then c.2.2.1.2.1 else c.2.2.1.2.2
noncomputable def keptV (s:Sta) (k:Int):Int×(Int×Int) :=
 if StaOk s then (if k<0∨2<k then (0,(0,1)) else ((oldV s.2.1 (j0n s.1 k) (tierN s.1 k)).1,(s.2.1 / j0n s.1 k,0))) else (0,(0,2))
theorem n1n {now w m:Int} (h:OfP now w) (hm:1≤m∧m≤4096):(oldV now w m).2=0:=by
 unfold oldV;rw[if_pos ⟨h,hm.1,hm.2⟩]
theorem o1y (n:Nat) {s:Sta} (hw:StaW s) (k:Int):z0l (n+16) s k=some (keptV s k):=by
 rw[x1y,t1o,k0o n hw];unfold keptV;by_cases h:StaOk s
 case neg=>rw[if_neg h,if_neg h];rfl
 rw[if_pos h,if_pos h];have hr:=h.whole.1.rng;have ht:=h.clock.1;simp only[obs,decide_true,Bool.not_true,tff,tfd,tfn,p1w (n+11)];by_cases h1:k<0
 ·rw[if_pos h1,if_pos (Or.inl h1)];rfl
 rw[if_neg h1];by_cases h2:3≤k
 ·rw[if_pos h2,if_pos (show k<0∨2<k by omega)];rfl
 rw[if_neg h2,if_neg (show ¬(k<0∨2<k) by omega)];simp only[obs,if_true];have q0:=v0v ht hr.w0.1;have q1:=v0v ht hr.w1.1;have q2:=v0v ht hr.w2.1;rcases (by omega:k=0∨k=1∨k=2) with e | e | e
 ·subst e;simp only[if_true,if_neg (nz hr.w0.1),q0,n1n ⟨ht.1,ht.2,hr.w0.1,hr.w0.2⟩ hr.n0];rfl
 ·subst e;simp only[if_true,if_neg (show ¬((1:Int)=0) by decide),if_neg (nz hr.w1.1),q1,n1n ⟨ht.1,ht.2,hr.w1.1,hr.w1.2⟩ hr.n1];rfl
 ·subst e;simp only[if_true,if_neg (show ¬((2:Int)=0) by decide),if_neg (show ¬((2:Int)=1) by decide),if_neg (nz hr.w2.1),q2,n1n ⟨ht.1,ht.2,hr.w2.1,hr.w2.2⟩ hr.n2];rfl
theorem y0x {a b:Cel} (ha:c0g a) (hb:c0g b) (h:Ahead a b):mrgE a b=(mrg a b,0):=by
 unfold mrgE;rw[if_pos ⟨ha,hb⟩,if_pos h]
theorem l2k {w:Int}:∀(L:List Slo) (c:Cel) (lo hi:Int),Up L→(∀s∈L,FitsP s.2 w s.1∧lo≤s.1∧s.1<hi)→c0g c→(c=z0∨c.2.2.1.1 / w<lo)→lo≤hi→(allE c (L.map (·.2))).1=z0∨(allE c (L.map (·.2))).1.2.2.1.1 / w<hi:=by
 intro L;induction L with
 | nil=>intro c lo hi _ _ _ h hle;rcases h with h | h;exact .inl h;exact .inr (by simp only[List.map_nil,allE];omega)
 | cons s L ih =>
  intro c lo hi hu hs hc hl hle;unfold Up at hu;rw[List.pairwise_cons] at hu;obtain ⟨hf,h1,h2⟩:=hs s (by simp);have ha:Ahead c s.2:=by
   rcases hl with h | h
   ·exact .inl h
   ·refine .inr (.inr ?_);have e:=hf.f;rcases Int.lt_or_le c.2.2.1.1 s.2.2.1.1 with q | q
    ·exact q
    ·have:=Int.ediv_le_ediv (c:=w) (by have:=hf.w0;omega) q;omega
  simp only[List.map_cons,allE];rw[y0x hc hf.n.ok ha,if_pos rfl];refine ih _ (s.1+1) hi hu.2 (fun x hx=>⟨(hs x (by simp[hx])).1,by have:=hu.1 x hx;omega,(hs x (by simp[hx])).2.2⟩) (s1d hc hf.n.ok ha) (.inr ?_) (by omega);have el:(mrg c s.2).2.2.1.1=s.2.2.2.1.1:=by
   unfold mrg;by_cases k:c=z0
   ·rw[if_pos k]
   ·rw[if_neg k,if_neg hf.n.ne]
  rw[el,hf.l];omega
theorem j1k {t:List Slo} {w i j a:Int} (h:TierOk t w) (hb:d0k t a) (h0:0≤i) (ha:i≤a):c0g (j0p t i j).1∧((j0p t i j).1=z0∨(j0p t i j).1.2.2.1.1 / w<a):=by
 refine ⟨x0u _ _ _,?_⟩;unfold j0p;split
 ·exact .inl rfl
 ·unfold within;have hn:=(s1c h a).1 hb;refine l2k (w:=w) _ z0 i a ((l1y h).filter _) (fun s hs => ?_) t0p (.inl rfl) ha;obtain ⟨s1,s2⟩:=List.mem_filter.1 hs;have s2:=of_decide_eq_true s2;exact ⟨(s0z h s1).1,s2.1,hn s s1⟩
theorem a2o {a b:Cel} {w k:Int} (hw:1≤w) (ha:a=z0∨a.2.2.1.1 / w<k) (hb:b=z0∨b.2.1.1 / w=k):Ahead a b:=by
 rcases ha with ha | ha
 ·exact .inl ha
 rcases hb with hb | hb
 ·exact .inr (.inl hb)
 refine .inr (.inr ?_);rcases Int.lt_or_le a.2.2.1.1 b.2.1.1 with q | q
 ·exact q
 ·have:=Int.ediv_le_ediv (c:=w) (by omega) q;omega
theorem e2u {w:Int}:∀(L:List Slo) (c:Cel) (lo:Int),Up L→(∀s∈L,FitsP s.2 w s.1∧lo≤s.1)→c0g c→(c=z0∨c.2.2.1.1 / w<lo)→∀b:Int,(c=z0∨b≤c.2.1.1 / w)→b≤lo→(allE c (L.map (·.2))).1=z0∨b≤(allE c (L.map (·.2))).1.2.1.1 / w:=by
 intro L;induction L with
 | nil=>intro c lo _ _ _ _ b hb _;exact hb
 | cons s L ih =>
  intro c lo hu hs hc hl b hb hbl;unfold Up at hu;rw[List.pairwise_cons] at hu;obtain ⟨hf,h1⟩:=hs s (by simp);have ha:Ahead c s.2:=by
   rcases hl with h | h
   ·exact .inl h
   ·refine .inr (.inr ?_);have e:=hf.f;rcases Int.lt_or_le c.2.2.1.1 s.2.2.1.1 with q | q
    ·exact q
    ·have:=Int.ediv_le_ediv (c:=w) (by have:=hf.w0;omega) q;omega
  simp only[List.map_cons,allE];rw[y0x hc hf.n.ok ha,if_pos rfl];refine ih _ (s.1+1) hu.2 (fun x hx=>⟨(hs x (by simp[hx])).1,by have:=hu.1 x hx;omega⟩) (s1d hc hf.n.ok ha) (.inr ?_) b ?_ (by omega)
  ·have el:(mrg c s.2).2.2.1.1=s.2.2.2.1.1:=by
    unfold mrg;by_cases k:c=z0
    ·rw[if_pos k]
    ·rw[if_neg k,if_neg hf.n.ne]
   rw[el,hf.l];omega
  ·unfold mrg;by_cases k:c=z0
   ·rw[if_pos k,hf.f];exact .inr (by omega)
   ·rw[if_neg k,if_neg hf.n.ne];rcases hb with hb | hb
    ·exact absurd hb k
    ·exact .inr hb
theorem u1z {t:List Slo} {w i j:Int} (h:TierOk t w) (h0:0≤i):(j0p t i j).1=z0∨i≤(j0p t i j).1.2.1.1 / w:=by
 unfold j0p;split
 ·exact .inl rfl
 ·unfold within;refine e2u (w:=w) _ z0 i ((l1y h).filter _) (fun s hs => ?_) t0p (.inl rfl) i (.inl rfl) (Int.le_refl _);obtain ⟨s1,s2⟩:=List.mem_filter.1 hs;have s2:=of_decide_eq_true s2;exact ⟨(s0z h s1).1,s2.1⟩
theorem now_up {t:List Slo} {a b T:Int} {cur:Cel} (h:TierOk t a) (hb:d0k t (T / a)) (ha:1≤a) (hb1:1≤b) (hm:b % a=0) (hT:0≤T) (hc:CellN cur) (hf:cur.2.1.1 / a=T / a) :
  ∃m,mrgE (j0p t (T / b*(b / a)) (T / a)).1 cur=(m,0)∧CellN m∧m.2.1.1 / b=T / b:=by
 have hp:=d2z ha hb1 hm;have q:=(edvm (t:=T) ha hb1 hm).2;have hT':0≤T / b:=Int.ediv_nonneg hT (by omega);have u0:T / b*(b / a)≤T / a:=by rw[←q];exact Int.ediv_mul_le _ (by omega)
 have p0:0≤T / b*(b / a):=Int.mul_nonneg hT' (by omega);obtain ⟨k1,k2⟩:=j1k (j:=T / a) h hb p0 u0;have k3:=u1z (j:=T / a) h p0;have hah:=a2o ha k2 (.inr hf);refine ⟨_,y0x k1 hc.ok hah,?_,?_⟩
 ·rcases k1 with z | z
  ·rw[z,y1g];exact hc
  ·rcases hah with y | y | y
   ·rw[y,y1g];exact hc
   ·exact absurd y hc.ne
   ·exact mrg_N z hc y
 ·unfold mrg;by_cases z:(j0p t (T / b*(b / a)) (T / a)).1=z0
  ·rw[if_pos z,←(edvm (t:=cur.2.1.1) ha hb1 hm).2,hf,q]
  ·rw[if_neg z,if_neg hc.ne];have z1:=k2.resolve_left z;have z2:=k3.resolve_left z;have z3:=(k1.n z).ft;have z4:(j0p t (T / b*(b / a)) (T / a)).1.2.1.1 / a≤(j0p t (T / b*(b / a)) (T / a)).1.2.2.1.1 / a:=Int.ediv_le_ediv (by omega) z3;rw[←(edvm (t:=(j0p t (T / b*(b / a)) (T / a)).1.2.1.1) ha hb1 hm).2];have z5:(j0p t (T / b*(b / a)) (T / a)).1.2.1.1 / a / (b / a)≤T / a / (b / a):=Int.ediv_le_ediv (by omega) (by omega);have z6:T / b≤(j0p t (T / b*(b / a)) (T / a)).1.2.1.1 / a / (b / a):=by rw[Int.le_ediv_iff_mul_le hp];exact z2
   omega
theorem a1l {t:List Slo} {w T i j:Int} {cur:Cel} {ok:Prop} [Decidable ok] (hok:ok) (h:TierOk t w) (hb:T = -1∨d0k t (T / w)∧CellN cur∧cur.2.1.1 / w=T / w) (h0:0≤i) (hij:i≤j):(e0w ok i j T w t (cur,0)).2=0:=by
 unfold e0w;rw[if_pos hok,if_neg (by omega),if_neg (by omega)];by_cases h1:T = -1
 ·rw[if_pos h1]
 rw[if_neg h1];obtain ⟨hb,hc,hf⟩:=hb.resolve_left h1;by_cases h2:T / w<i
 ·rw[if_pos h2];exact j0o h h0 hij
 rw[if_neg h2];by_cases h3:j≤T / w
 ·rw[if_pos h3];exact j0o h h0 hij
 rw[if_neg h3,if_neg (nn rfl)];obtain ⟨k1,k2⟩:=j1k (j:=j) h hb h0 (by omega:i≤T / w);rw[y0x k1 hc.ok (a2o h.w0 k2 (.inr hf))]
structure Ends3 (c:Conf) (s:Ser):Prop where
 t0:s.2.1 = -1∨d0k s.2.2.2.1.1 (s.2.1 / c.2.1.1)∧CellN s.2.2.2.2.2∧s.2.2.2.2.2.2.1.1 / c.2.1.1=s.2.1 / c.2.1.1
 t1:s.2.1 = -1∨∃m,now1 c s=(m,0)∧d0k s.2.2.2.1.2.1 (s.2.1 / c.2.1.2.1)∧CellN m∧m.2.1.1 / c.2.1.2.1=s.2.1 / c.2.1.2.1
 t2:s.2.1 = -1∨∃m,now2 c s=(m,0)∧d0k s.2.2.2.1.2.2 (s.2.1 / c.2.1.2.2)∧CellN m∧m.2.1.1 / c.2.1.2.2=s.2.1 / c.2.1.2.2
theorem v1r {c:Conf} {s:Ser} (h:SerOk c s):Ends3 c s:=by
 have hr:=h.fold.cok.rng;by_cases hn:s.2.1 = -1
 ·exact ⟨.inl hn,.inl hn,.inl hn⟩
 have ht:=u0p h hn;obtain ⟨he,_⟩:=k1b h hn;have hf:s.2.2.2.2.2.2.1.1 / c.2.1.1=s.2.1 / c.2.1.1:=by
  rw[he.fit.f,←he.fit.l,he.ol]
 obtain ⟨m1,a1,a2,a3⟩:=now_up h.fold.t0 he.b0 hr.w0.1 hr.w1.1 h.fold.cok.m1 ht.1 he.fit.n hf;obtain ⟨m2,b1,b2,b3⟩:=now_up h.fold.t1 he.b1 hr.w1.1 hr.w2.1 h.fold.cok.m2 ht.1 a2 a3;have e1:now1 c s=(m1,0):=a1;refine ⟨.inr ⟨he.b0,he.fit.n,hf⟩,.inr ⟨m1,e1,he.b1,a2,a3⟩,.inr ⟨m2,?_,he.b2,b2,b3⟩⟩;unfold now2;rw[e1,if_neg (nn rfl)];exact b1
noncomputable def c1f (c:Conf) (s:Ser) (k i j:Int):Cel×Int :=
 if k=0 then e0w (SerOk c s) i j s.2.1 c.2.1.1 s.2.2.2.1.1 (s.2.2.2.2.2,0)
 else if k=1 then e0w (SerOk c s) i j s.2.1 c.2.1.2.1 s.2.2.2.1.2.1 (now1 c s)
 else e0w (SerOk c s) i j s.2.1 c.2.1.2.2 s.2.2.2.1.2.2 (now2 c s)
theorem w1c {c:Conf} {s:Ser} (h:SerOk c s) (k:Int) {i j:Int} (h0:0≤i) (hij:i≤j):(c1f c s k i j).2=0:=by
 have he:=v1r h;unfold c1f;split
 ·exact a1l h h.fold.t0 he.t0 h0 hij
 split
 ·by_cases hn:s.2.1 = -1
  ·unfold e0w;rw[if_pos h,if_neg (by omega),if_neg (by omega),if_pos hn]
  ·obtain ⟨m,e,k1,k2,k3⟩:=he.t1.resolve_left hn;rw[e];exact a1l h h.fold.t1 (.inr ⟨k1,k2,k3⟩) h0 hij
 ·by_cases hn:s.2.1 = -1
  ·unfold e0w;rw[if_pos h,if_neg (by omega),if_neg (by omega),if_pos hn]
  ·obtain ⟨m,e,k1,k2,k3⟩:=he.t2.resolve_left hn;rw[e];exact a1l h h.fold.t2 (.inr ⟨k1,k2,k3⟩) h0 hij
theorem i2b {s:Sta} (h:StaOk s) {x:Ser} (hx:x∈s.2.2.2) (hl:LvX s x):SerOk s.1 x∧0≤x.2.1:=by
 obtain ⟨i,hi,e⟩:=List.getElem_of_mem hx;rcases h.right i x (by rw[List.getElem?_eq_getElem hi,e]) with k | k
 ·exact absurd k hl.1
 ·exact ⟨k.1,k.2.1⟩
theorem x1g {α:Type} {l pre rest:List α} {x:α} {i:Int} (h:l=pre++x::rest) (hi:i=pre.length):l[i.toNat]? = some x:=by subst h hi;simp
section
variable {del:Int×Unit→Option Bool} {p:Int→Bool} {L:List Int} (hd:∀x∈L,del (x,())=some (p x))
include hd
end
theorem d2v {s:Sta} (h:Whole s) {l:List Lab} {i:Nat} (hf:z0i s l=some i):d2x s l=((i:Int),0):=by
 unfold d2x;rw[if_pos h,hf]
theorem d2w {s:Sta} (h:Whole s) {l:List Lab} (hf:z0i s l=none):d2x s l=(0,3):=by
 unfold d2x;rw[if_pos h,hf]
end Go.Proofs.YtagnkfbpgkckiaaGreatDoor

namespace Go.Plim
set_option linter.unusedVariables false
def tz:Nat→Nat→Nat
 | 0,_=>0
 | k+1,x=>if x % 2=1 then 0 else tz k (x / 2)+1
theorem tz_odd (k x:Nat) (h:x % 2=1):tz k x=0:=by cases k<;>simp[tz,h]
theorem w0f:∀(k x:Nat),0<x→x<2^k→tz k x<k∧x=2^tz k x*(x / 2^tz k x)∧(x / 2^tz k x) % 2=1:=by
 intro k;induction k with
 | zero=>intro x h0 h1;simp at h1;omega
 | succ k ih =>
  intro x h0 h1;by_cases h:x % 2=1
  ·rw[tz_odd (k+1) x h];simp[h]
  ·have e:tz (k+1) x=tz k (x / 2)+1:=by simp[tz,h]
   rw[Nat.pow_succ] at h1;obtain ⟨a1,a2,a3⟩:=ih (x / 2) (by omega) (by omega);rw[e,Nat.pow_succ,Nat.mul_comm (2^tz k (x / 2)) 2,←Nat.div_div_eq_div_mul];refine ⟨by omega,?_,a3⟩;rw[Nat.mul_assoc,←a2];omega
theorem e1k {k x t:Nat} (h0:0<x) (h1:x<2^k) (h:x % 2^t=0) (ho:(x / 2^t) % 2=1):tz k x=t:=by
 obtain ⟨a1,a2,a3⟩:=w0f k x h0 h1;have b2:x=2^t*(x / 2^t):=by have:=Nat.div_add_mod x (2^t);omega
 generalize tz k x=s at *
 generalize hy:x / 2^s=y at *
 generalize hz:x / 2^t=z at *
 have e:2^s*y=2^t*z:=by omega
 have one:∀(s t y z:Nat),2^s*y=2^t*z→y % 2=1→z % 2=1→s<t→False:=by
  intro s t y z e hy hz hlt;obtain ⟨d,rfl⟩:∃d,t=s+(d+1):=⟨t-s-1,by omega⟩;rw[Nat.pow_add,Nat.mul_assoc] at e;have:=Nat.eq_of_mul_eq_mul_left (Nat.two_pow_pos s) e;rw[this,Nat.pow_succ,Nat.mul_comm (2^d) 2,Nat.mul_assoc,Nat.mul_mod_right] at hy;cases hy
 rcases Nat.lt_trichotomy s t with q | q | q
 ·exact (one s t y z e a3 ho q).elim
 ·exact q
 ·exact (one t s z y e.symm ho a3 q).elim
theorem x1h {a b:Nat} (ha:a % 2=1) (t:Nat):Nat.gcd a (2^t*b)=Nat.gcd a b:=by
 have hc:Nat.Coprime 2 a:=by
  unfold Nat.Coprime;rw[Nat.gcd_rec,ha];simp
 exact Nat.Coprime.gcd_mul_left_cancel_right b (Nat.Coprime.pow_left t hc)
theorem e1a {a b:Nat} (h:a≤b):Nat.gcd a (b-a)=Nat.gcd a b:=by
 have:=Nat.gcd_add_self_right (m:=a) (n:=b-a);rw[Nat.sub_add_cancel h] at this;exact this.symm
theorem j2e {x y s t a b:Nat} (hx:x=2^s*a) (hy:y=2^t*b) (ha:a % 2=1) (hb:b % 2=1):Nat.gcd x y=2^(min s t)*Nat.gcd a b:=by
 subst hx hy;rcases Nat.le_total s t with h | h
 ·rw[Nat.min_eq_left h];obtain ⟨d,rfl⟩:∃d,t=s+d:=⟨t-s,by omega⟩;rw[Nat.pow_add,Nat.mul_assoc,Nat.gcd_mul_left,x1h ha]
 ·rw[Nat.min_eq_right h];obtain ⟨d,rfl⟩:∃d,s=t+d:=⟨s-t,by omega⟩;rw[Nat.pow_add,Nat.mul_assoc,Nat.gcd_mul_left,Nat.gcd_comm (2^d*a),x1h hb,Nat.gcd_comm b a]
def bl:Nat→Nat→Nat
 | 0,_=>0
 | k+1,x=>if x=0 then 0 else bl k (x / 2)+1
theorem b1n (k:Nat):bl k 0=0:=by cases k<;>simp[bl]
theorem k0f:∀(k x:Nat),x<2^k→x<2^bl k x∧(0<x→0<bl k x∧2^(bl k x-1)≤x)∧bl k x≤k:=by
 intro k;induction k with
 | zero=>intro x h;simp[bl] at *;omega
 | succ k ih =>
  intro x h;by_cases h0:x=0
  ·subst h0;rw[b1n];simp
  ·have e:bl (k+1) x=bl k (x / 2)+1:=by simp[bl,h0]
   rw[Nat.pow_succ] at h;obtain ⟨a1,a2,a3⟩:=ih (x / 2) (by omega);rw[e];refine ⟨by rw[Nat.pow_succ];omega,fun _=>⟨by omega,?_⟩,by omega⟩;rw[Nat.add_sub_cancel];by_cases h1:x / 2=0
   ·rw[h1,b1n];simp;omega
   ·obtain ⟨b1,b2⟩:=a2 (by omega);have:2^bl k (x / 2)=2^(bl k (x / 2)-1)*2:=by rw[←Nat.pow_succ];congr 1;omega
    omega
theorem u1b {k x b:Nat} (h:x<2^k) (h0:0<x) (h1:2^b≤x) (h2:x<2^(b+1)):bl k x=b+1:=by
 obtain ⟨a1,a2,_⟩:=k0f k x h;obtain ⟨c1,c2⟩:=a2 h0;have d1:b<bl k x:=by
  rcases Nat.lt_or_ge b (bl k x) with q | q
  ·exact q
  ·have:=Nat.pow_le_pow_right (show 0<2 by decide) q;omega
 have d2:bl k x-1<b+1:=by
  rcases Nat.lt_or_ge (bl k x-1) (b+1) with q | q
  ·exact q
  ·have:=Nat.pow_le_pow_right (show 0<2 by decide) q;omega
 omega
end Go.Plim

namespace Go.Plim
set_option linter.unusedVariables false
def ofN (x:Nat):Wd:=(((x / 18446744073709551616:Nat):Int),((x % 18446744073709551616:Nat):Int))
theorem w1s (x:Nat):mkW (x:Int)=ofN x:=by
 unfold mkW ofN;rw[Prod.mk.injEq];constructor<;>omega
theorem wv_ofN (x:Nat):wv (ofN x)=x:=by rw[←w1s,p1r]
theorem ofN_ok {x:Nat} (h:x<340282366920938463463374607431768211456):WdOk (ofN x):=by rw[←w1s];exact s1e (by omega) (by omega)
theorem ofN_zero (x:Nat):(decide ((ofN x).1=(0:Int))&&decide ((ofN x).2=(0:Int)))=decide (x=0):=by
 rw[←Bool.decide_and];apply decide_eq_decide.2;unfold ofN;simp only;omega
def od (x:Nat):Nat:=x / 2^tz 128 x
theorem p0f {x:Nat} (h0:0<x) (h1:x<340282366920938463463374607431768211456):tz 128 x<128∧x=2^tz 128 x*od x∧od x % 2=1 :=
 w0f 128 x h0 h1
theorem h2o {x:Nat} (h0:0<x) (h1:x<340282366920938463463374607431768211456):0<od x:=by
 have:=(p0f h0 h1).2.2;rcases Nat.eq_zero_or_pos (od x) with q | q
 ·rw[q] at this;cases this
 ·exact q
theorem od_le (x:Nat):od x≤x:=Nat.div_le_self _ _
theorem od_even {x:Nat} (h0:0<x) (h1:x<340282366920938463463374607431768211456) (he:x % 2=0):2*od x≤x:=by
 obtain ⟨_,a2,a3⟩:=p0f h0 h1;have ht:1≤tz 128 x:=by
  rcases Nat.eq_zero_or_pos (tz 128 x) with q | q
  ·rw[q] at a2;simp at a2;omega
  ·exact q
 have:2^1≤2^tz 128 x:=Nat.pow_le_pow_right (by decide) ht;have:=Nat.mul_le_mul_right (od x) this;omega
theorem j2f {a x:Nat} (ha:a % 2=1) (h0:0<x) (h1:x<340282366920938463463374607431768211456):Nat.gcd a (od x)=Nat.gcd a x:=by
 obtain ⟨_,a2,_⟩:=p0f h0 h1;have:=x1h (b:=od x) ha (tz 128 x);rw[←a2] at this;exact this.symm
theorem j2d {x y:Nat} (hx:0<x) (hx':x<340282366920938463463374607431768211456) (hy:0<y) (hy':y<340282366920938463463374607431768211456) :
  Nat.gcd x y=Nat.gcd (od x) y*2^(min (tz 128 x) (tz 128 y)):=by
 obtain ⟨_,a2,a3⟩:=p0f hx hx';obtain ⟨_,b2,b3⟩:=p0f hy hy';rw[j2e a2 b2 a3 b3,j2f a3 hy hy',Nat.mul_comm]
theorem or_pow {q k:Nat} (h:2^(k+1) ∣ q):q ||| 2^k=q+2^k:=by
 obtain ⟨m,rfl⟩:=h;exact (Nat.two_pow_add_eq_or_of_lt (i:=k+1) (b:=2^k) (by rw[Nat.pow_succ];have:=Nat.two_pow_pos k;omega) m).symm
theorem div_part {a d k q:Nat} (hd:0<d) (h:d*2^k≤a):q+2^k+(a-d*2^k) / d=q+a / d:=by
 have e:a=(a-d*2^k)+d*2^k:=by omega
 have:a / d=(a-d*2^k) / d+2^k:=by
  conv=>lhs;rw[e]
  rw[Nat.add_mul_div_left _ _ hd]
 omega
theorem half_up {x k:Nat} (hk:k<64) (h:x*2^k<340282366920938463463374607431768211456) :
  x / 18446744073709551616*2^k+x % 18446744073709551616 / 2^(64-k)=x*2^k / 18446744073709551616∧x % 18446744073709551616 / 2^(64-k)<2^k ∧
  x % 18446744073709551616*2^k % 18446744073709551616=x*2^k % 18446744073709551616:=by
 have e:18446744073709551616=2^(64-k)*2^k:=by rw[←Nat.pow_add,show 64-k+k=64 by omega]
 have hp:=Nat.two_pow_pos k;have hq:=Nat.two_pow_pos (64-k);have h0:=Nat.div_add_mod x 18446744073709551616;have h1:=Nat.mod_lt x (show 0<18446744073709551616 by decide);generalize x / 18446744073709551616=H at *
 generalize x % 18446744073709551616=L at *
 subst h0;have e1:(18446744073709551616*H+L)*2^k=L*2^k+18446744073709551616*(H*2^k):=by rw[Nat.add_mul,Nat.mul_assoc];omega
 have e2:L*2^k / 18446744073709551616=L / 2^(64-k):=by
  conv=>lhs;rw[e]
  exact Nat.mul_div_mul_right _ _ hp
 refine ⟨?_,?_,?_⟩
 ·rw[e1,Nat.add_mul_div_left _ _ (by decide),e2];omega
 ·exact Nat.div_lt_of_lt_mul (by rw[←e];exact h1)
 ·rw[e1,Nat.add_mul_mod_self_left]
theorem j2c {x k:Nat} (hk:k<64) (h:x<340282366920938463463374607431768211456) :
  x / 18446744073709551616 / 2^k=x / 2^k / 18446744073709551616 ∧
  x % 18446744073709551616 / 2^k+x / 18446744073709551616*2^(64-k) % 18446744073709551616=x / 2^k % 18446744073709551616∧x % 18446744073709551616 / 2^k<2^(64-k) ∧
  ∃m,x / 18446744073709551616*2^(64-k) % 18446744073709551616=2^(64-k)*m:=by
 have e:18446744073709551616=2^k*2^(64-k):=by rw[←Nat.pow_add,show k+(64-k)=64 by omega]
 have hp:=Nat.two_pow_pos k;have hq:=Nat.two_pow_pos (64-k);have c1:x / 18446744073709551616 / 2^k=x / 2^k / 18446744073709551616:=by rw[Nat.div_div_eq_div_mul,Nat.div_div_eq_div_mul,Nat.mul_comm]
 have h0:=Nat.div_add_mod x 18446744073709551616;have h1:=Nat.mod_lt x (show 0<18446744073709551616 by decide);have hm0:∀H:Nat,H*2^(64-k) % 18446744073709551616=2^(64-k)*(H % 2^k):=by
  intro H
  conv=>lhs;rw[e]
  rw[Nat.mul_mod_mul_right,Nat.mul_comm]
 have hm:=hm0 (x / 18446744073709551616);have c3:x % 18446744073709551616 / 2^k<2^(64-k):=Nat.div_lt_of_lt_mul (by rw[←e];exact h1);refine ⟨c1,?_,c3,_,hm⟩;rw[hm];generalize x / 18446744073709551616=H at *
 generalize x % 18446744073709551616=L at *
 subst h0;have e1:(18446744073709551616*H+L) / 2^k=L / 2^k+2^(64-k)*H:=by
  conv=>lhs;rw[e]
  rw[Nat.mul_assoc,Nat.add_comm,Nat.add_mul_div_left _ _ hp]
 have h2:=Nat.div_add_mod H (2^k);have e2:2^(64-k)*H=18446744073709551616*(H / 2^k)+2^(64-k)*(H % 2^k):=by
  conv=>lhs;rw[←h2]
  rw[Nat.mul_add,←Nat.mul_assoc,Nat.mul_comm (2^(64-k)),←e]
 rw[e1,e2];have hlt:L / 2^k+2^(64-k)*(H % 2^k)<18446744073709551616:=by
  have h3:=Nat.mod_lt H hp;have h4:2^(64-k)*(H % 2^k+1)≤2^(64-k)*2^k:=Nat.mul_le_mul_left _ h3;rw[Nat.mul_comm (2^(64-k)) (2^k),←e,Nat.mul_add,Nat.mul_one] at h4;omega
 omega
end Go.Plim

namespace Go.Plim
set_option linter.unusedVariables false
theorem k2g:∀(k a b:Nat),a+b+1=2^k→a &&& b=0:=by
 intro k;induction k with
 | zero => intro a b h; have : a = 0 := by simp at h; omega
           rw[this];simp
 | succ k ih =>
  intro a b h;rw[Nat.pow_succ] at h;have h1:(a &&& b) % 2≠1:=by rw[ne_eq,Nat.and_mod_two_eq_one];omega
  have h2:(a &&& b) / 2=0:=by rw[Nat.and_div_two];exact ih _ _ (by omega)
  omega
theorem low_bit {x:Nat} (h0:0<x) (h:x<18446744073709551616):x &&& (18446744073709551616-x)=2^tz 64 x:=by
 obtain ⟨a1,a2,a3⟩:=w0f 64 x h0 h;generalize hs:tz 64 x=s at *
 generalize x / 2^s=o at *
 have e:18446744073709551616=2^s*2^(64-s):=by rw[←Nat.pow_add,show s+(64-s)=64 by omega]
 have hp:=Nat.two_pow_pos s;have e1:18446744073709551616-x=2^s*(2^(64-s)-o):=by rw[Nat.mul_sub,←e,←a2]
 have ho:o<2^(64-s):=by
  rcases Nat.lt_or_ge o (2^(64-s)) with q | q
  ·exact q
  ·have:=Nat.mul_le_mul_left (2^s) q;rw[←e,←a2] at this;omega
 obtain ⟨c,hc⟩:∃c,2^(64-s)=2*2^c:=⟨63-s,by rw[show 64-s=(63-s)+1 by omega,Nat.pow_succ,Nat.mul_comm]⟩;have e2:o &&& (2^(64-s)-o)=1:=by
  have h1:(o &&& (2^(64-s)-o)) % 2=1:=by rw[Nat.and_mod_two_eq_one];omega
  have h2:(o &&& (2^(64-s)-o)) / 2=0:=by rw[Nat.and_div_two];exact k2g c _ _ (by omega)
  omega
 rw[e1]
 conv=>lhs;rw[a2]
 rw[Nat.mul_comm (2^s) o,Nat.mul_comm (2^s),←Nat.shiftLeft_eq,←Nat.shiftLeft_eq,←Nat.shiftLeft_and_distrib,e2,Nat.shiftLeft_eq,Nat.one_mul]
theorem tz_lo {x:Nat} (h:x<340282366920938463463374607431768211456) (h0:0<x % 18446744073709551616):tz 128 x=tz 64 (x % 18446744073709551616):=by
 obtain ⟨a1,a2,a3⟩:=w0f 64 _ h0 (Nat.mod_lt x (by decide));generalize tz 64 (x % 18446744073709551616)=s at *
 have e:18446744073709551616=2^s*(2*2^(63-s)):=by rw[←Nat.pow_succ',←Nat.pow_add,show s+(63-s).succ=64 by omega]
 have hp:=Nat.two_pow_pos s;have h2:=Nat.div_add_mod x 18446744073709551616;generalize x % 18446744073709551616=L at *
 generalize x / 18446744073709551616=H at *
 generalize L / 2^s=o at *
 have e1:x=2^s*(2*(2^(63-s)*H)+o):=by
  rw[Nat.mul_add,←a2,←Nat.mul_assoc 2,←Nat.mul_assoc (2^s),←e];omega
 refine e1k (by omega) h ?_ ?_
 ·rw[e1,Nat.mul_mod_right]
 ·rw[e1,Nat.mul_div_cancel_left _ hp];omega
theorem tz_hi {x:Nat} (h:x<340282366920938463463374607431768211456) (h0:x % 18446744073709551616=0) (hx:0<x):tz 128 x=64+tz 64 (x / 18446744073709551616):=by
 have hH:0<x / 18446744073709551616:=by omega
 obtain ⟨a1,a2,a3⟩:=w0f 64 _ hH (by omega);generalize tz 64 (x / 18446744073709551616)=s at *
 have h2:=Nat.div_add_mod x 18446744073709551616;generalize x / 18446744073709551616=H at *
 generalize H / 2^s=o at *
 have hp:=Nat.two_pow_pos (64+s);have e1:x=2^(64+s)*o:=by
  rw[Nat.pow_add,Nat.mul_assoc,←a2];omega
 refine e1k hx h ?_ ?_
 ·rw[e1,Nat.mul_mod_right]
 ·rw[e1,Nat.mul_div_cancel_left _ hp];exact a3
theorem a2k {k x s:Nat} (h:x<2^k) (hs:2^s≤x):bl k x=s+bl k (x / 2^s):=by
 have hp:=Nat.two_pow_pos s;have h0:0<x / 2^s:=Nat.div_pos hs hp;have h1:x / 2^s<2^k:=Nat.lt_of_le_of_lt (Nat.div_le_self _ _) h;obtain ⟨a1,a2,a3⟩:=k0f k (x / 2^s) h1;obtain ⟨b1,b2⟩:=a2 h0;obtain ⟨c,hc⟩:∃c,bl k (x / 2^s)=c+1:=⟨bl k (x / 2^s)-1,by omega⟩;rw[hc] at a1 b2 ⊢;rw[Nat.add_sub_cancel] at b2;rw[←Nat.add_assoc];refine u1b h (by omega) ?_ ?_
 ·rw[Nat.pow_add,Nat.mul_comm];exact (Nat.le_div_iff_mul_le hp).1 b2
 ·rw[Nat.add_assoc,Nat.pow_add,Nat.mul_comm];exact (Nat.div_lt_iff_lt_mul hp).1 a1
theorem a2j {k m x:Nat} (h:x<2^k) (h':x<2^m):bl k x=bl m x:=by
 rcases Nat.eq_zero_or_pos x with q | q
 ·subst q;rw[b1n,b1n]
 ·obtain ⟨a1,a2,_⟩:=k0f m x h';obtain ⟨b1,b2⟩:=a2 q;obtain ⟨c,hc⟩:∃c,bl m x=c+1:=⟨bl m x-1,by omega⟩;rw[hc] at a1 b2 ⊢;rw[Nat.add_sub_cancel] at b2;exact u1b h q b2 a1
theorem bl_up {a d k:Nat} (ha:a<2^128) (hd:d<2^128) (hk:bl 128 d+k≤bl 128 a) (h0:0<a):d*2^k<2^128:=by
 obtain ⟨a1,a2,a3⟩:=k0f 128 a ha;obtain ⟨d1,d2,d3⟩:=k0f 128 d hd;have h1:d*2^k<2^bl 128 d*2^k:=Nat.mul_lt_mul_of_pos_right d1 (Nat.two_pow_pos k);rw[←Nat.pow_add] at h1;exact Nat.lt_of_lt_of_le h1 (Nat.pow_le_pow_right (by decide) (by omega))
theorem bl_over {a d:Nat} (ha:a<2^128) (hd:d<2^128) (h0:0<d):a<d*2^(bl 128 a-bl 128 d+1):=by
 obtain ⟨a1,a2,a3⟩:=k0f 128 a ha;obtain ⟨d1,d2,d3⟩:=k0f 128 d hd;obtain ⟨b1,b2⟩:=d2 h0;have h1:2^(bl 128 d-1)*2^(bl 128 a-bl 128 d+1)≤d*2^(bl 128 a-bl 128 d+1):=Nat.mul_le_mul_right _ b2;rw[←Nat.pow_add] at h1;have h2:2^bl 128 a≤2^(bl 128 d-1+(bl 128 a-bl 128 d+1)):=Nat.pow_le_pow_right (by decide) (by omega);omega
theorem bl_less {a d:Nat} (ha:a<2^128) (hd:d<2^128) (h:bl 128 a<bl 128 d):a<d:=by
 obtain ⟨a1,a2,a3⟩:=k0f 128 a ha;obtain ⟨d1,d2,d3⟩:=k0f 128 d hd;rcases Nat.eq_zero_or_pos d with q | q
 ·subst q;rw[b1n] at h;omega
 ·obtain ⟨b1,b2⟩:=d2 q;have:2^bl 128 a≤2^(bl 128 d-1):=Nat.pow_le_pow_right (by decide) (by omega);omega
end Go.Plim

namespace Go.Proofs.YtagnkfbpgkckiaaGreatDoor
open Go.Flat Go.Plim
set_option linter.unusedVariables false
set_option linter.unusedSimpArgs false
theorem wrapN (x:Nat):IntKind.wrap .u64 (x:Int)=((x % 18446744073709551616:Nat):Int):=by
 rw[IntKind.wrap_u64];omega
theorem shlN (x k:Nat) (hk:k≤64):shlI .u64 (x:Int) (k:Int)=((x*2^k % 18446744073709551616:Nat):Int):=by
 show IntKind.wrap .u64 ((x:Int)*2^(min (k:Int).toNat 64))=_;rw[show min (k:Int).toNat 64=k by omega,←wrapN];congr 1
theorem shrN (x k:Nat) (hk:k≤64):shrI .u64 (x:Int) (k:Int)=((x / 2^k:Nat):Int):=by
 rw[g2d _ _ hk];simp
theorem orN {x y:Nat} (hx:x<18446744073709551616) (hy:y<18446744073709551616):orI .u64 (x:Int) (y:Int)=((x ||| y:Nat):Int):=by
 unfold orI;have e2:(BitVec.ofInt IntKind.u64.bits (x:Int) ||| BitVec.ofInt IntKind.u64.bits (y:Int)).toNat=x ||| y:=by
  show (BitVec.ofInt 64 (x:Int) ||| BitVec.ofInt 64 (y:Int)).toNat=_;rw[BitVec.toNat_or,BitVec.ofInt_natCast,BitVec.ofInt_natCast,BitVec.toNat_ofNat,BitVec.toNat_ofNat,Nat.mod_eq_of_lt (by omega),Nat.mod_eq_of_lt (by omega)]
 rw[e2];have:x ||| y<2^64:=Nat.or_lt_two_pow (by omega) (by omega)
 exact wu64 (by omega) (by omega)
theorem andN {x y:Nat} (hx:x<18446744073709551616) (hy:y<18446744073709551616):andI .u64 (x:Int) (y:Int)=((x &&& y:Nat):Int):=by
 unfold andI;have e2:(BitVec.ofInt IntKind.u64.bits (x:Int) &&& BitVec.ofInt IntKind.u64.bits (y:Int)).toNat=x &&& y:=by
  show (BitVec.ofInt 64 (x:Int) &&& BitVec.ofInt 64 (y:Int)).toNat=_;rw[BitVec.toNat_and,BitVec.ofInt_natCast,BitVec.ofInt_natCast,BitVec.toNat_ofNat,BitVec.toNat_ofNat,Nat.mod_eq_of_lt (by omega),Nat.mod_eq_of_lt (by omega)]
 rw[e2];have:x &&& y≤x:=Nat.and_le_left;exact wu64 (by omega) (by omega)
theorem z1e {H L k:Nat} (h:L<2^k):H*2^k ||| L=H*2^k+L:=by
 rw[Nat.mul_comm];exact (Nat.two_pow_add_eq_or_of_lt h H).symm
end Go.Proofs.YtagnkfbpgkckiaaGreatDoor
namespace Go.Proofs.YtagnkfbpgkckiaaGreatDoor
open Go.Flat Go.Plim
set_option linter.unusedVariables false
def lenT:List UInt8 :=
 h0g
theorem d2d (n:Nat) (x:Int):d0u (n+1) x =
 tif ((decide ((4294967296:Int)≤x))) (
 tif ((decide ((65536:Int)≤(shrI .u64 x (32:Int))))) (
 tif ((decide ((256:Int)≤(shrI .u64 (shrI .u64 x (32:Int)) (16:Int))))) (
 a0a (at? lenT (IntKind.wrap .u8 (shrI .u64 (shrI .u64 (shrI .u64 x (32:Int)) (16:Int)) (8:Int)))) fun r0 =>
 some (IntKind.wrap .i64 ((56:Int)+(IntKind.wrap .i64 (((UInt8.toNat r0):Nat):Int))))) (
 a0a (at? lenT (IntKind.wrap .u8 (shrI .u64 (shrI .u64 x (32:Int)) (16:Int)))) fun r1 =>
 some (IntKind.wrap .i64 ((48:Int)+(IntKind.wrap .i64 (((UInt8.toNat r1):Nat):Int)))))) (
 tif ((decide ((256:Int)≤(shrI .u64 x (32:Int))))) (
 a0a (at? lenT (IntKind.wrap .u8 (shrI .u64 (shrI .u64 x (32:Int)) (8:Int)))) fun r2 =>
 some (IntKind.wrap .i64 ((40:Int)+(IntKind.wrap .i64 (((UInt8.toNat r2):Nat):Int))))) (
 a0a (at? lenT (IntKind.wrap .u8 (shrI .u64 x (32:Int)))) fun r3 =>
 some (IntKind.wrap .i64 ((32:Int)+(IntKind.wrap .i64 (((UInt8.toNat r3):Nat):Int))))))) (
 tif ((decide ((65536:Int)≤x))) (
 tif ((decide ((256:Int)≤(shrI .u64 x (16:Int))))) (
 a0a (at? lenT (IntKind.wrap .u8 (shrI .u64 (shrI .u64 x (16:Int)) (8:Int)))) fun r4 =>
 some (IntKind.wrap .i64 ((24:Int)+(IntKind.wrap .i64 (((UInt8.toNat r4):Nat):Int))))) (
 a0a (at? lenT (IntKind.wrap .u8 (shrI .u64 x (16:Int)))) fun r5 =>
 some (IntKind.wrap .i64 ((16:Int)+(IntKind.wrap .i64 (((UInt8.toNat r5):Nat):Int)))))) (
 tif ((decide ((256:Int)≤x))) (
 a0a (at? lenT (IntKind.wrap .u8 (shrI .u64 x (8:Int)))) fun r6 =>
 some (IntKind.wrap .i64 ((8:Int)+(IntKind.wrap .i64 (((UInt8.toNat r6):Nat):Int))))) (
 a0a (at? lenT (IntKind.wrap .u8 x)) fun r7 =>
 some (IntKind.wrap .i64 ((0:Int)+(IntKind.wrap .i64 (((UInt8.toNat r7):Nat):Int))))))):=y0z n x
theorem lenT_all:((List.range 256).all fun z=>match lenT[z]? with | some r=>decide (r.toNat=bl 64 z) | none=>false)=true:=by decide +kernel
end Go.Proofs.YtagnkfbpgkckiaaGreatDoor
namespace Go.Proofs.YtagnkfbpgkckiaaGreatDoor
open Go.Flat Go.Plim
set_option linter.unusedVariables false
set_option linter.unusedSimpArgs false
theorem f0x (n x:Nat):m0d (n+1) (ofN x)=some (decide (x=0)):=by
 rw[m1t,ofN_zero]
theorem up_small {x k:Nat} (hk:k≤128) (h:x*2^k<340282366920938463463374607431768211456):x<2^(128-k):=by
 have e:340282366920938463463374607431768211456=2^(128-k)*2^k:=by rw[←Nat.pow_add,show 128-k+k=128 by omega]
 rw[e] at h;exact Nat.lt_of_mul_lt_mul_right h
theorem t0i (n x k:Nat) (hk:k<128) (h:x*2^k<340282366920938463463374607431768211456):y0n (n+1) (ofN x) (k:Int)=some (ofN (x*2^k)):=by
 rw[w1a];simp only[tfd];by_cases c:64≤k
 ·have e:(k:Int)-64=((k-64:Nat):Int):=by omega
  have hx:x<18446744073709551616:=Nat.lt_of_lt_of_le (up_small (by omega) h) (show 2^(128-k)≤2^64 from Nat.pow_le_pow_right (by decide) (by omega));have e2:x*2^k=18446744073709551616*(x*2^(k-64)):=by
   rw[show (18446744073709551616:Nat)=2^64 from rfl,Nat.mul_left_comm,←Nat.pow_add,show 64+(k-64)=k by omega]
  rw[if_pos (by omega),w64 (by omega) (by omega),if_neg (by omega),e];show some (shlI .u64 ((x % 18446744073709551616:Nat):Int) _,_)=some (((x*2^k / 18446744073709551616:Nat):Int),((x*2^k % 18446744073709551616:Nat):Int));rw[shlN _ _ (by omega),Nat.mod_eq_of_lt hx,e2,Nat.mul_div_cancel_left _ (by decide),Nat.mul_mod_right];rw[e2] at h;have:x*2^(k-64)<18446744073709551616:=Nat.lt_of_mul_lt_mul_left (show 18446744073709551616*(x*2^(k-64))<18446744073709551616*18446744073709551616 from h);rw[Nat.mod_eq_of_lt this];rfl
 ·have e:(64:Int)-k=((64-k:Nat):Int):=by omega
  obtain ⟨a1,a2,a3⟩:=half_up (show k<64 by omega) h;rw[if_neg (by omega),if_neg (by omega),w64 (by omega) (by omega),if_neg (by omega),if_neg (by omega),e];show some (orI .u64 (shlI .u64 ((x / 18446744073709551616:Nat):Int) _) (shrI .u64 ((x % 18446744073709551616:Nat):Int) _),shlI .u64 ((x % 18446744073709551616:Nat):Int) _)=some (((x*2^k / 18446744073709551616:Nat):Int),((x*2^k % 18446744073709551616:Nat):Int));have hq:x*2^k / 18446744073709551616<18446744073709551616:=Nat.div_lt_of_lt_mul h
  have h1:x / 18446744073709551616*2^k<18446744073709551616:=Nat.lt_of_le_of_lt (by rw[←a1];exact Nat.le_add_right _ _) hq;have h2:x % 18446744073709551616 / 2^(64-k)<18446744073709551616:=Nat.lt_of_le_of_lt (Nat.div_le_self _ _) (Nat.mod_lt _ (by decide));rw[shlN _ _ (by omega),shrN _ _ (by omega),shlN _ _ (by omega),Nat.mod_eq_of_lt h1,orN h1 h2,z1e a2,a1,a3]
theorem v0t (n x k:Nat) (hk:k<128) (h:x<340282366920938463463374607431768211456):u0r (n+1) (ofN x) (k:Int)=some (ofN (x / 2^k)):=by
 rw[m1w];simp only[tfd];have hq:x / 18446744073709551616<18446744073709551616:=Nat.div_lt_of_lt_mul h;by_cases c:64≤k
 ·have e:(k:Int)-64=((k-64:Nat):Int):=by omega
  rw[if_pos (by omega),w64 (by omega) (by omega),if_neg (by omega),e];show some (_,shrI .u64 ((x / 18446744073709551616:Nat):Int) _)=some (((x / 2^k / 18446744073709551616:Nat):Int),((x / 2^k % 18446744073709551616:Nat):Int));have e2:x / 2^k=x / 18446744073709551616 / 2^(k-64):=by
   rw[Nat.div_div_eq_div_mul,show (18446744073709551616:Nat)=2^64 from rfl,←Nat.pow_add,show 64+(k-64)=k by omega]
  have hlt:x / 18446744073709551616 / 2^(k-64)<18446744073709551616:=Nat.lt_of_le_of_lt (Nat.div_le_self _ _) hq;rw[shrN _ _ (by omega),e2,Nat.div_eq_of_lt hlt,Nat.mod_eq_of_lt hlt];rfl
 ·have e:(64:Int)-k=((64-k:Nat):Int):=by omega
  obtain ⟨a1,a2,a3,m,a4⟩:=j2c (show k<64 by omega) h;rw[if_neg (by omega),if_neg (by omega),if_neg (by omega),w64 (by omega) (by omega),if_neg (by omega),e];show some (shrI .u64 ((x / 18446744073709551616:Nat):Int) _,orI .u64 (shrI .u64 ((x % 18446744073709551616:Nat):Int) _) (shlI .u64 ((x / 18446744073709551616:Nat):Int) _))=some (((x / 2^k / 18446744073709551616:Nat):Int),((x / 2^k % 18446744073709551616:Nat):Int));have h3:x % 18446744073709551616 / 2^k<18446744073709551616:=Nat.lt_of_le_of_lt (Nat.div_le_self _ _) (Nat.mod_lt _ (by decide))
  have h4:x / 18446744073709551616*2^(64-k) % 18446744073709551616<18446744073709551616:=Nat.mod_lt _ (by decide);rw[shrN _ _ (by omega),shrN _ _ (by omega),shlN _ _ (by omega),orN h3 h4,Nat.or_comm];have a4':x / 18446744073709551616*2^(64-k) % 18446744073709551616=m*2^(64-k):=by rw[Nat.mul_comm m];exact a4
  rw[a4',z1e a3,←a4',Nat.add_comm];rw[show x % 18446744073709551616 / 2^k+x / 18446744073709551616*2^(64-k) % 18446744073709551616=x / 2^k % 18446744073709551616 from a2,show x / 18446744073709551616 / 2^k=x / 2^k / 18446744073709551616 from a1]
theorem wide_sub (n:Nat) {x y:Nat} (hx:x<340282366920938463463374607431768211456) (h:y≤x):l1j (n+2) (ofN x) (ofN y)=some (ofN (x-y),0):=by
 rw[u1l];have h1:x / 18446744073709551616<18446744073709551616:=Nat.div_lt_of_lt_mul hx;have h2:y / 18446744073709551616<18446744073709551616:=Nat.div_lt_of_lt_mul (Nat.lt_of_le_of_lt h hx);have h3:x % 18446744073709551616<18446744073709551616:=Nat.mod_lt _ (by decide);have h4:y % 18446744073709551616<18446744073709551616:=Nat.mod_lt _ (by decide);have e:∀z:Nat,ofN z=(((z / 18446744073709551616:Nat):Int),((z % 18446744073709551616:Nat):Int)):=fun _=>rfl
 rw[e x,e y,e (x-y)];have ex:=Nat.div_add_mod x 18446744073709551616;have ey:=Nat.div_add_mod y 18446744073709551616;have ez:=Nat.div_add_mod (x-y) 18446744073709551616;have h5:(x-y) % 18446744073709551616<18446744073709551616:=Nat.mod_lt _ (by decide);generalize x / 18446744073709551616=a at *
 generalize x % 18446744073709551616=b at *
 generalize y / 18446744073709551616=c at *
 generalize y % 18446744073709551616=d at *
 generalize (x-y) / 18446744073709551616=p at *
 generalize (x-y) % 18446744073709551616=q at *
 simp only[e1n,tfd,tft];by_cases hb:b<d
 ·have hb':(b:Int)<(d:Int)+0:=by omega
  rw[if_pos (by omega),if_pos (by omega),if_pos (by omega),if_pos (by omega),if_pos (by omega),if_pos (by omega),if_pos hb',if_pos (by omega),if_pos (by omega),if_neg (by omega),l0u,obs,if_pos rfl];congr 3<;>omega
 ·have hb':¬(b:Int)<(d:Int)+0:=by omega
  rw[if_pos (by omega),if_pos (by omega),if_pos (by omega),if_pos (by omega),if_pos (by omega),if_pos (by omega),if_neg hb',if_pos (by omega),if_pos (by omega),if_neg (by omega),l0u,obs,if_pos rfl];congr 3<;>omega
theorem p0c (n:Nat) {x y:Nat} (hx:x<340282366920938463463374607431768211456) (h:y≤x):j0w (n+3) (ofN x) (ofN y)=some (ofN (x-y)):=by
 rw[m1v,wide_sub n hx h];rfl
theorem j1h (n:Nat) {x y:Nat} (hx:x<340282366920938463463374607431768211456) (hy:y<340282366920938463463374607431768211456):m0m (n+1) (ofN x) (ofN y)=some (decide (x<y)):=by
 rw[p1u n (ofN_ok hx) (ofN_ok hy),wv_ofN,wv_ofN];congr 1;exact decide_eq_decide.2 (by omega)
theorem tz_pow (n:Nat):((List.range 64).all fun t=>match l0d (n+1) ((2^t:Nat):Int) with | some r=>decide (r=(t:Int)) | none=>false)=true:=by kernel_rfl
theorem tz_at (n t:Nat) (ht:t<64):l0d (n+1) ((2^t:Nat):Int)=some (t:Int):=by
 have h:=List.all_eq_true.1 (tz_pow n) t (List.mem_range.2 ht);split at h
 ·rename_i r hr;rw[hr,of_decide_eq_true h]
 ·cases h
theorem z1m {x:Nat} (h0:0<x) (h:x<18446744073709551616):andI .u64 (x:Int) (IntKind.wrap .u64 ((0:Int)-x))=((2^tz 64 x:Nat):Int):=by
 rw[show IntKind.wrap .u64 ((0:Int)-x)=((18446744073709551616-x:Nat):Int) by rw[IntKind.wrap_u64];omega,andN h (by omega)];exact congrArg Int.ofNat (low_bit h0 h)
theorem tz_val (n:Nat) {x:Nat} (h0:0<x) (h:x<18446744073709551616):l0d (n+1) (x:Int)=some ((tz 64 x:Nat):Int):=by
 have ht:=(w0f 64 x h0 h).1;have hp:=Nat.two_pow_pos (tz 64 x);have hp2:2^tz 64 x<18446744073709551616:=Nat.pow_lt_pow_right (a:=2) (by decide) ht;rw[←tz_at n _ ht];have e:tz 64 (2^tz 64 x)=tz 64 x:=e1k hp hp2 (Nat.mod_self _) (by rw[Nat.div_self hp]);rw[c1t,c1t,z1m h0 h,z1m hp hp2,e,decide_eq_false (show ¬((x:Int)=0) by omega),decide_eq_false (show ¬(((2^tz 64 x:Nat):Int)=0) by omega)]
theorem w0o (n:Nat) {x:Nat} (h0:0<x) (h:x<340282366920938463463374607431768211456):g0x (n+2) (ofN x)=some ((tz 128 x:Nat):Int):=by
 rw[d1c];show tif (decide (((x % 18446744073709551616:Nat):Int)=0)) (a0a (l0d (n+1) ((x / 18446744073709551616:Nat):Int)) fun r0=>some (IntKind.wrap .i64 (64+r0))) (a0a (l0d (n+1) ((x % 18446744073709551616:Nat):Int)) fun r1=>some r1)=_;rw[tfd];by_cases c:x % 18446744073709551616=0
 ·have h1:0<x / 18446744073709551616:=by omega
  have h2:x / 18446744073709551616<18446744073709551616:=Nat.div_lt_of_lt_mul h;have ht:=(w0f 64 _ h1 h2).1;rw[if_pos (by omega),tz_val n h1 h2,obs,w64 (by omega) (by omega),tz_hi h c h0];congr 1
 ·rw[if_neg (by omega),tz_val n (by omega) (Nat.mod_lt _ (by decide)),obs,tz_lo h (by omega)]
theorem lenT_at {z:Nat} (h:z<256):∃r,at? lenT (z:Int)=some r∧r.toNat=bl 64 z:=by
 have h1:=List.all_eq_true.1 lenT_all z (List.mem_range.2 h);split at h1
 ·rename_i r hr;refine ⟨r,?_,of_decide_eq_true h1⟩;unfold at?;rw[decide_eq_true (by omega)];exact hr
 ·cases h1
theorem o0k {x s K:Nat} {I S:Int} (hK:K=2^s) (hI:I=((x / K:Nat):Int)) (hS:S=s) (h2:x / K<256) (h1:K≤x∨s=0) (hx:x<18446744073709551616) (hs:s≤56) :
  (a0a (at? lenT (IntKind.wrap .u8 I)) fun r=>some (IntKind.wrap .i64 (S+IntKind.wrap .i64 (((UInt8.toNat r):Nat):Int))))=some ((bl 64 x:Nat):Int):=by
 obtain ⟨r,hr,hb⟩:=lenT_at h2;have hle:=(k0f 64 (x / K) (Nat.lt_of_le_of_lt (Nat.div_le_self _ _) hx)).2.2;have e:bl 64 x=s+bl 64 (x / K):=by
  rcases h1 with h1 | rfl
  ·rw[hK] at h1 ⊢;exact a2k hx h1
  ·subst hK;simp
 rw[hI,e];generalize x / K=z at *
 rw[wu8 (by omega) (by omega),hr,obs,hb,w64 (x:=((bl 64 z:Nat):Int)) (by omega) (by omega),hS,w64 (by omega) (by omega)];congr 1
theorem s1i (n:Nat) {x:Nat} (h:x<18446744073709551616):d0u (n+1) (x:Int)=some ((bl 64 x:Nat):Int):=by
 have s32:∀z:Nat,shrI .u64 (z:Int) (32:Int)=((z / 4294967296:Nat):Int):=fun z=>shrN z 32 (by decide)
 have s16:∀z:Nat,shrI .u64 (z:Int) (16:Int)=((z / 65536:Nat):Int):=fun z=>shrN z 16 (by decide)
 have s8:∀z:Nat,shrI .u64 (z:Int) (8:Int)=((z / 256:Nat):Int):=fun z=>shrN z 8 (by decide)
 have h':=h;rw[d2d];simp only[s32,s16,s8,tfd];by_cases c5:4294967296≤x
 ·rw[if_pos (by omega)];by_cases c4:65536≤x / 4294967296
  ·rw[if_pos (by omega)];by_cases c3:256≤x / 4294967296 / 65536
   ·rw[if_pos (by omega)];exact o0k (s:=56) (K:=72057594037927936) rfl (by omega) rfl (by omega) (.inl (by omega)) h (by decide)
   ·rw[if_neg (by omega)];exact o0k (s:=48) (K:=281474976710656) rfl (by omega) rfl (by omega) (.inl (by omega)) h (by decide)
  ·rw[if_neg (by omega)];by_cases c3:256≤x / 4294967296
   ·rw[if_pos (by omega)];exact o0k (s:=40) (K:=1099511627776) rfl (by omega) rfl (by omega) (.inl (by omega)) h (by decide)
   ·rw[if_neg (by omega)];exact o0k (s:=32) (K:=4294967296) rfl (by omega) rfl (by omega) (.inl (by omega)) h (by decide)
 ·rw[if_neg (by omega)];by_cases c4:65536≤x
  ·rw[if_pos (by omega)];by_cases c3:256≤x / 65536
   ·rw[if_pos (by omega)];exact o0k (s:=24) (K:=16777216) rfl (by omega) rfl (by omega) (.inl (by omega)) h (by decide)
   ·rw[if_neg (by omega)];exact o0k (s:=16) (K:=65536) rfl (by omega) rfl (by omega) (.inl (by omega)) h (by decide)
  ·rw[if_neg (by omega)];by_cases c3:256≤x
   ·rw[if_pos (by omega)];exact o0k (s:=8) (K:=256) rfl (by omega) rfl (by omega) (.inl (by omega)) h (by decide)
   ·rw[if_neg (by omega)];exact o0k (s:=0) (K:=1) rfl (by omega) rfl (by omega) (.inr rfl) h (by decide)
theorem z1p (n:Nat) {x:Nat} (h:x<340282366920938463463374607431768211456):u0q (n+2) (ofN x)=some ((bl 128 x:Nat):Int):=by
 rw[m1u];show tif (!decide (((x / 18446744073709551616:Nat):Int)=0)) (a0a (d0u (n+1) ((x / 18446744073709551616:Nat):Int)) fun r0=>some (IntKind.wrap .i64 (64+r0))) (a0a (d0u (n+1) ((x % 18446744073709551616:Nat):Int)) fun r1=>some r1)=_;have hq:x / 18446744073709551616<18446744073709551616:=Nat.div_lt_of_lt_mul h;rw[tfn,tfd];by_cases c:x / 18446744073709551616=0
 ·have hx:x<18446744073709551616:=by omega
  rw[if_pos (by omega),s1i n (Nat.mod_lt _ (by decide)),obs,Nat.mod_eq_of_lt hx,a2j (k:=64) (m:=128) hx h]
 ·have hle:=(k0f 64 (x / 18446744073709551616) hq).2.2;rw[if_neg (by omega),s1i n hq,obs,w64 (by omega) (by omega),a2k (k:=128) (s:=64) h (by omega)];rw[←a2j (k:=128) (m:=64) (x:=x / 18446744073709551616) (Nat.lt_of_lt_of_le hq (by decide)) hq];congr 1
theorem or_ofN {x y:Nat} (hx:x<340282366920938463463374607431768211456) (hy:y<340282366920938463463374607431768211456):((orI .u64 (ofN x).1 (ofN y).1,orI .u64 (ofN x).2 (ofN y).2):Wd)=ofN (x ||| y):=by
 show ((orI .u64 ((x / 18446744073709551616:Nat):Int) ((y / 18446744073709551616:Nat):Int),orI .u64 ((x % 18446744073709551616:Nat):Int) ((y % 18446744073709551616:Nat):Int)):Wd)=((((x ||| y) / 18446744073709551616:Nat):Int),(((x ||| y) % 18446744073709551616:Nat):Int));have e1:(x ||| y) / 18446744073709551616=x / 18446744073709551616 ||| y / 18446744073709551616:=Nat.or_div_two_pow (n:=64)
 have e2:(x ||| y) % 18446744073709551616=x % 18446744073709551616 ||| y % 18446744073709551616:=Nat.or_mod_two_pow (n:=64)
 rw[e1,e2,orN (Nat.div_lt_of_lt_mul hx) (Nat.div_lt_of_lt_mul hy),orN (Nat.mod_lt _ (by decide)) (Nat.mod_lt _ (by decide))]
theorem one_ofN:((0,1):Wd)=ofN 1:=rfl
theorem zero_ofN:((0,0):Wd)=ofN 0:=rfl
theorem whole_l3 (n:Nat) {d A:Nat} (hd:0<d) (hA:A<340282366920938463463374607431768211456) (hdM:d<340282366920938463463374607431768211456) (s4:Wd):∀(k f a q:Nat),q+a / d=A / d→a≤A→a<d*2^k→2^k ∣ q→(k=0∨d*2^(k-1)<340282366920938463463374607431768211456)→k≤128→k<f →
  i0a (n+3) f (ofN a,ofN d,s4,ofN q,(k:Int)-1,())=some (.inl (s4,ofN (A / d),())):=by
 intro k;induction k with
 | zero =>
  intro f a q h1 h2 h3 h4 h5 h6 hf;obtain ⟨f,rfl⟩:∃g,f=g+1:=⟨f-1,by omega⟩;rw[j0v,decide_eq_false (by omega),tff];rw[Nat.pow_zero,Nat.mul_one] at h3;rw[Nat.div_eq_of_lt h3,Nat.add_zero] at h1;rw[h1]
 | succ k ih =>
  intro f a q h1 h2 h3 h4 h5 h6 hf;obtain ⟨f,rfl⟩:∃g,f=g+1:=⟨f-1,by omega⟩;have h5':d*2^k<340282366920938463463374607431768211456:=by
   rcases h5 with h | h
   ·cases h
   ·exact h
  have hk5:k=0∨d*2^(k-1)<340282366920938463463374607431768211456:=by
   rcases Nat.eq_zero_or_pos k with e | e
   ·exact .inl e
   ·refine .inr (Nat.lt_of_le_of_lt (Nat.mul_le_mul_left d (Nat.pow_le_pow_right (by decide) (Nat.sub_le _ _))) h5')
  have hpk:2^k<340282366920938463463374607431768211456:=Nat.lt_of_lt_of_le (Nat.pow_lt_pow_right (a:=2) (n:=128) (by decide) (by omega)) (by decide);have eb:((k+1:Nat):Int)-1=(k:Int):=by omega
  have hq2:2^k ∣ q:=Nat.dvd_trans (Nat.pow_dvd_pow 2 (Nat.le_succ k)) h4;rw[j0v,eb,decide_eq_true (by omega),tft,t0i (n+2) d k (by omega) h5',obs,j1h (n+2) (by omega) h5',obs,w64 (by omega) (by omega),tfd];by_cases hlt:a<d*2^k
  ·rw[if_pos hlt];exact ih f a q h1 h2 hlt hq2 hk5 (by omega) (by omega)
  ·rw[if_neg hlt,p0c n (by omega) (by omega),obs,e1g,obs,one_ofN,t0i (n+2) 1 k (by omega) (by rw[Nat.one_mul];exact hpk),obs,Nat.one_mul];have hqA:q≤A / d:=by rw[←h1];exact Nat.le_add_right _ _
   have hqM:q<340282366920938463463374607431768211456:=Nat.lt_of_le_of_lt (Nat.le_trans hqA (Nat.div_le_self _ _)) hA;rw[or_ofN hqM hpk,or_pow h4];refine ih f (a-d*2^k) (q+2^k) ?_ (by omega) ?_ (Nat.dvd_add hq2 (Nat.dvd_refl _)) hk5 (by omega) (by omega)
   ·rw[div_part hd (by omega)];exact h1
   ·rw[Nat.pow_succ,←Nat.mul_assoc] at h3;omega
theorem t0h (n:Nat) {a d:Nat} (ha:a<340282366920938463463374607431768211456) (hd:0<d) (hdM:d<340282366920938463463374607431768211456):r0i (n+4) (ofN a) (ofN d)=some (ofN (a / d)):=by
 have la:=(k0f 128 a ha).2.2;have ld:=(k0f 128 d hdM).2;have ld1:=(ld.1 hd).1;rw[i1d,z1p (n+1) ha,obs,z1p (n+1) hdM,obs,w64 (by omega) (by omega)];by_cases h:bl 128 d≤bl 128 a
 ·have h0:0<a:=by
   rcases Nat.eq_zero_or_pos a with e | e
   ·rw[e,b1n] at h;omega
   ·exact e
  have e:((bl 128 a:Nat):Int)-((bl 128 d:Nat):Int)=((bl 128 a-bl 128 d+1:Nat):Int)-1:=by omega
  rw[e,zero_ofN,whole_l3 n hd ha hdM _ (bl 128 a-bl 128 d+1) a0b a 0 (by omega) (Nat.le_refl _) (bl_over ha hdM hd) (Nat.dvd_zero _) (.inr (by rw[Nat.add_sub_cancel];exact bl_up ha hdM (by omega) h0)) (by omega) (by unfold a0b;omega),obs,a0y]
 ·have hlt:=bl_less ha hdM (by omega);rw[show a0b=(2^70-1)+1 from rfl,j0v,decide_eq_false (by omega),tff,obs,a0y,Nat.div_eq_of_lt hlt];rfl
theorem z1v (n:Nat) {A B f:Nat} (ha0:0<A) (ha:A<340282366920938463463374607431768211456) (hb0:0<B) (hb:B<340282366920938463463374607431768211456) (s4:Wd) (tw:Int):d0q (n+3) (f+1) (ofN A,ofN B,s4,tw,()) =
  if od B<A then d0q (n+3) f (ofN (od B),ofN (A-od B),s4,tw,()) else d0q (n+3) f (ofN A,ofN (od B-A),s4,tw,()):=by
 have ht:=(p0f hb0 hb).1;have hle:od B<340282366920938463463374607431768211456:=Nat.lt_of_le_of_lt (od_le B) hb;rw[n0g,f0x,obs,tfn,decide_eq_false (by omega),tff,w0o (n+1) hb0 hb,obs,v0t (n+2) B _ ht hb,obs]
 change a0a (m0m (n+3) (ofN (od B)) (ofN A)) _=_
 rw[j1h (n+2) hle ha,obs,tfd];by_cases h:od B<A
 ·rw[if_pos h,if_pos h]
  change a0a (j0w (n+3) (ofN A) (ofN (od B))) _=_
  rw[p0c n ha (by omega),obs];rfl
 ·rw[if_neg h,if_neg h]
  change a0a (j0w (n+3) (ofN (od B)) (ofN A)) _=_
  rw[p0c n hle (by omega),obs]
theorem gcd_l5 (n:Nat) (s4:Wd) (tw:Int):∀(k f A B:Nat),0<A→A<340282366920938463463374607431768211456→A % 2=1→B<340282366920938463463374607431768211456→B % 2=0→A*B<2^k→k<f →
  d0q (n+3) f (ofN A,ofN B,s4,tw,())=some (.inl (ofN (Nat.gcd A B),s4,tw,())):=by
 intro k;induction k with
 | zero =>
  intro f A B h1 h2 h3 h4 h5 h6 hf;obtain ⟨f,rfl⟩:∃g,f=g+1:=⟨f-1,by omega⟩;have:B=0:=by
   rcases Nat.eq_zero_or_pos B with e | e
   ·exact e
   ·have:=Nat.mul_pos h1 e;omega
  subst this;rw[n0g,f0x,obs,tfn,decide_eq_true rfl,tft,Nat.gcd_zero_right]
 | succ k ih =>
  intro f A B h1 h2 h3 h4 h5 h6 hf;obtain ⟨f,rfl⟩:∃g,f=g+1:=⟨f-1,by omega⟩;rcases Nat.eq_zero_or_pos B with e | hB
  ·subst e;rw[n0g,f0x,obs,tfn,decide_eq_true rfl,tft,Nat.gcd_zero_right]
  ·have hev:=od_even hB h4 h5;have hod:=(p0f hB h4).2.2;have hpos:=h2o hB h4;have hg:=j2f h3 hB h4;have hp:A*od B<2^k:=by
    have:A*(2*od B)≤A*B:=Nat.mul_le_mul_left A hev;rw[Nat.mul_left_comm] at this;rw[Nat.pow_succ] at h6;omega
   rw[z1v n h1 h2 hB h4];by_cases h:od B<A
   ·rw[if_pos h,ih f (od B) (A-od B) hpos (by omega) hod (by omega) (by omega) (Nat.lt_of_le_of_lt (by rw[Nat.mul_comm A];exact Nat.mul_le_mul_left _ (Nat.sub_le _ _)) hp) (by omega),e1a (by omega),Nat.gcd_comm,hg]
   ·rw[if_neg h,ih f A (od B-A) h1 h2 h3 (by omega) (by omega) (Nat.lt_of_le_of_lt (Nat.mul_le_mul_left _ (Nat.sub_le _ _)) hp) (by omega),e1a (by omega),hg]
theorem gcd_any (n:Nat) (s4:Wd) (tw:Int) {A B:Nat} (h1:0<A) (h2:A<340282366920938463463374607431768211456) (h3:A % 2=1) (hB:0<B) (h4:B<340282366920938463463374607431768211456):d0q (n+3) a0b (ofN A,ofN B,s4,tw,())=some (.inl (ofN (Nat.gcd A B),s4,tw,())):=by
 have hod:=(p0f hB h4).2.2;have hpos:=h2o hB h4;have hle:=od_le B;have hg:=j2f h3 hB h4;have hm:∀ {x y:Nat},x<340282366920938463463374607431768211456→y<340282366920938463463374607431768211456→x*y<2^256:=fun hx hy=>Nat.lt_of_lt_of_le (Nat.mul_lt_mul'' hx hy) (by decide)
 rw[show a0b=(2^70-1)+1 from rfl,z1v n h1 h2 hB h4];by_cases h:od B<A
 ·rw[if_pos h,gcd_l5 n s4 tw 256 _ (od B) (A-od B) hpos (by omega) hod (by omega) (by omega) (hm (by omega) (by omega)) (by decide),e1a (by omega),Nat.gcd_comm,hg]
 ·rw[if_neg h,gcd_l5 n s4 tw 256 _ A (od B-A) h1 h2 h3 (by omega) (by omega) (hm (by omega) (by omega)) (by decide),e1a (by omega),hg]
theorem g2r (n:Nat) {x y:Nat} (hx:x<340282366920938463463374607431768211456) (hy:y<340282366920938463463374607431768211456):f1j (n+4) (ofN x) (ofN y)=some (ofN (Nat.gcd x y)):=by
 rw[r1i,f0x,obs,or_ofN hx hy];by_cases h0:x=0
 ·subst h0;rw[decide_eq_true rfl,tft,Nat.gcd_zero_left,Nat.zero_or]
 rw[decide_eq_false h0,tff,f0x,obs];by_cases h1:y=0
 ·subst h1;rw[decide_eq_true rfl,tft,Nat.gcd_zero_right,Nat.or_zero]
 have hx0:0<x:=by omega
 have hy0:0<y:=by omega
 obtain ⟨a1,a2,a3⟩:=p0f hx0 hx;obtain ⟨b1,b2,b3⟩:=p0f hy0 hy;have hle:od x<340282366920938463463374607431768211456:=Nat.lt_of_le_of_lt (od_le x) hx;rw[decide_eq_false h1,tff,w0o (n+1) hx0 hx,obs,w0o (n+1) hy0 hy,obs,obs,v0t (n+2) x _ a1 hx,obs]
 change a0a (d0q (n+3) a0b (ofN (od x),ofN y,_,_,())) _=_
 rw[gcd_any n _ _ (h2o hx0 hx) hle a3 hy0 hy,obs,a0y];have e:(if ((tz 128 y:Nat):Int)<((tz 128 x:Nat):Int) then ((tz 128 y:Nat):Int) else ((tz 128 x:Nat):Int))=((min (tz 128 x) (tz 128 y):Nat):Int):=by
  split<;>omega
 have hg:=j2d hx0 hx hy0 hy;have hlt:Nat.gcd x y<340282366920938463463374607431768211456:=Nat.lt_of_le_of_lt (Nat.gcd_le_left y hx0) hx;simp only;rw[e,t0i (n+2) _ _ (by omega) (by rw[←hg];exact hlt),obs,←hg]
theorem lo_ofN {b:Nat} (h:b<18446744073709551616):(((0:Int),(b:Int)):Wd)=ofN b:=by
 unfold ofN;rw[Nat.div_eq_of_lt h,Nat.mod_eq_of_lt h];rfl
def redV (x y:Nat):(Wd×Wd)×Int:=if y=0 then (((0,0),(0,0)),1) else ((ofN (x / Nat.gcd x y),ofN (y / Nat.gcd x y)),0)
theorem r1h (n:Nat) {x y:Nat} (hx:x<340282366920938463463374607431768211456) (hy:y<340282366920938463463374607431768211456):t0j (n+5) (ofN x) (ofN y)=some (redV x y):=by
 rw[f1i,f0x,obs,tfd];unfold redV;by_cases h:y=0
 ·rw[if_pos h,if_pos h]
 ·have hg:0<Nat.gcd x y:=Nat.gcd_pos_of_pos_right x (by omega);have hl:Nat.gcd x y<340282366920938463463374607431768211456:=Nat.lt_of_le_of_lt (Nat.gcd_le_right x (by omega)) hy;rw[if_neg h,if_neg h,g2r n hx hy,obs,t0h n hx hg hl,obs,t0h n hy hg hl,obs]
def rateV (a:Wd) (ms:Int):(Wd×Wd)×Int :=
 if ms=0 then (((0,0),(0,0)),12) else if wv a*1000<340282366920938463463374607431768211456 then redV (wv a*1000).toNat ms.toNat else (((0,0),(0,0)),1)
theorem c2f {a:Wd} (ha:WdOk a) {ms:Int} (hm:0≤ms∧ms≤18446744073709551615) (h:wv a*1000<340282366920938463463374607431768211456):mkW (wv a*1000)=ofN (wv a*1000).toNat∧(wv a*1000).toNat<340282366920938463463374607431768211456∧(((0:Int),ms):Wd)=ofN ms.toNat∧ms.toNat<340282366920938463463374607431768211456:=by
 obtain ⟨h1,h2⟩:=o0b ha;have e:wv a*1000=(((wv a*1000).toNat:Nat):Int):=by omega
 refine ⟨?_,by omega,?_,by omega⟩
 ·conv=>lhs;rw[e]
  exact w1s _
 ·rw[←lo_ofN (by omega)];congr 1;omega
theorem c2e (n:Nat) {a:Wd} (ha:WdOk a) {ms:Int} (hm:0≤ms∧ms≤18446744073709551615):a1k (n+6) a ms=some (rateV a ms):=by
 rw[m1x,tfd];unfold rateV;by_cases h0:ms=0
 ·rw[if_pos h0,if_pos h0]
 rw[if_neg h0,if_neg h0,j1g (n+3) ha 1000 (by omega),obs];unfold q1i;by_cases h:wv a*1000<340282366920938463463374607431768211456
 ·obtain ⟨p1,p2,p3,p4⟩:=c2f ha hm h;rw[if_pos h,if_pos h];simp only[decide_true,Bool.not_true,tff];rw[e1g,obs,p1,p3,r1h n p2 p4,obs]
 ·rw[if_neg h,if_neg h];rfl
section
variable {del:Ev×Unit→Option Bool} {p:Ev→Bool} {L:List Ev} (hd:∀x∈L,del (x,())=some (p x))
include hd
end
def WidP (w:Int):Prop:=1≤w∧w≤1099511627776
instance (w:Int):Decidable (WidP w):=by unfold WidP;infer_instance
def RngP (a b:Int):Prop:=0≤a∧b≤35184372088832∧a<b
instance (a b:Int):Decidable (RngP a b):=by unfold RngP;infer_instance
def q0w (a b w:Int):Int×(Int×Int):=if WidP w∧RngP a b then (if a % w=0∧b % w=0 then (a / w,(b / w,0)) else (0,(0,10))) else (0,(0,1))
theorem f2z {w:Int} (a b:Int) (hw:WidP w) :
  (tif (decide (a<(0:Int))) (some ((0:Int),((0:Int),(1:Int)))) (
  tif (decide ((35184372088832:Int)<b)) (some ((0:Int),((0:Int),(1:Int)))) (
  tif (decide (b≤a)) (some ((0:Int),((0:Int),(1:Int)))) (
  tif (decide (w=(0:Int))) none (
  tif (!(decide ((Int.tmod a w)=(0:Int)))) (some ((0:Int),((0:Int),(10:Int)))) (
  tif (decide (w=(0:Int))) none (
  tif (!(decide ((Int.tmod b w)=(0:Int)))) (some ((0:Int),((0:Int),(10:Int)))) (
  tif (decide (w=(0:Int))) none (
  tif (decide (w=(0:Int))) none (
  some ((IntKind.wrap .i64 (Int.tdiv a w)),((IntKind.wrap .i64 (Int.tdiv b w)),(0:Int)))))))))))))=some (q0w a b w):=by
 obtain ⟨w1,w2⟩:=hw;unfold q0w;simp only[tfd,tfn];by_cases h:RngP a b
 ·obtain ⟨h1,h2,h3⟩:=h;have qa:0≤a / w∧a / w≤a:=⟨Int.ediv_nonneg h1 (by omega),Int.ediv_le_self _ h1⟩;have qb:0≤b / w∧b / w≤b:=⟨Int.ediv_nonneg (by omega) (by omega),Int.ediv_le_self _ (by omega)⟩;rw[if_neg (by omega),if_neg (by omega),if_neg (by omega),if_neg (by omega),if_pos (show WidP w∧RngP a b from ⟨⟨w1,w2⟩,h1,h2,h3⟩),s0t h1,s0t (show 0≤b by omega),w0j h1,w0j (show 0≤b by omega),w64 (by omega) (by omega),w64 (by omega) (by omega)];by_cases ha:a % w=0
  ·rw[if_pos ha,if_neg (by omega)];by_cases hb:b % w=0
   ·rw[if_pos hb,if_neg (by omega),if_neg (by omega),if_pos ⟨ha,hb⟩]
   ·rw[if_neg hb,if_neg (fun k=>hb k.2)]
  ·rw[if_neg ha,if_neg (fun k=>ha k.1)]
 ·rw[if_neg (show ¬(WidP w∧RngP a b) from fun k=>h k.2)];by_cases h1:a<0
  ·rw[if_pos h1]
  rw[if_neg h1];by_cases h2:35184372088832<b
  ·rw[if_pos h2]
  rw[if_neg h2,if_pos (by unfold RngP at h;omega)]
theorem z0t (n:Nat) (a b w:Int):i0u (n+3) a b w=some (q0w a b w):=by
 rw[a2w,e1h,wi_in,obs,obs,tfn,tfd];by_cases h:WidP w
 ·rw[if_pos (show 1≤w∧w≤1099511627776 from h)];exact f2z a b h
 ·rw[if_neg (show ¬(1≤w∧w≤1099511627776) from h)];unfold q0w;rw[if_neg (fun k=>h k.1)]
noncomputable def oneV (s:Sta) (k a b:Int):Int :=
 if (q0w a b (j0n s.1 k)).2.2=0 then (if (q0w a b (j0n s.1 k)).1<(oldV s.2.1 (j0n s.1 k) (tierN s.1 k)).1 then 11 else 0) else (q0w a b (j0n s.1 k)).2.2
theorem kept_ok {s:Sta} (h:StaOk s) {k:Int} (h0:0≤k) (h2:k≤2):keptV s k=((oldV s.2.1 (j0n s.1 k) (tierN s.1 k)).1,(s.2.1 / j0n s.1 k,0)):=by
 unfold keptV;rw[if_pos h,if_neg (by omega)]
theorem tier3 {t:Int} (h1:1≤t) (h3:t≤3):IntKind.wrap .i64 (t-1)=t-1:=w64 (by omega) (by omega)
theorem y0p (n:Nat) {s:Sta} (hw:StaW s) (h:StaOk s) {t:Int} (h1:1≤t) (h3:t≤3) (a b:Int):y0q (n+17) s t a b=some (oneV s (t-1) a b):=by
 rw[r1k,tier3 h1 h3];have hk:=kept_ok h (k:=t-1) (by omega) (by omega);unfold oneV;rcases (by omega:t=1∨t=2∨t=3) with e | e | e<;>subst e
 ·rw[show ((1:Int)-1)=0 from rfl] at hk ⊢;rw[decide_eq_true (show (0:Int)=0 from rfl),tft]
  change a0a (i0u _ a b (j0n s.1 0)) _=_
  rw[z0t (n+13),obs,tfn,tfd,o1y n hw 0,hk,obs];by_cases hs:(q0w a b (j0n s.1 0)).2.2=0
  ·rw[if_pos hs,if_pos hs,decide_eq_true rfl,tft,tfd];split<;>rfl
  ·rw[if_neg hs,if_neg hs]
 ·rw[show ((2:Int)-1)=1 from rfl] at hk ⊢;rw[decide_eq_false (show ¬((1:Int)=0) by decide),tff];rw[decide_eq_true (show (1:Int)=1 from rfl),tft]
  change a0a (i0u _ a b (j0n s.1 1)) _=_
  rw[z0t (n+13),obs,tfn,tfd,o1y n hw 1,hk,obs];by_cases hs:(q0w a b (j0n s.1 1)).2.2=0
  ·rw[if_pos hs,if_pos hs,decide_eq_true rfl,tft,tfd];split<;>rfl
  ·rw[if_neg hs,if_neg hs]
 ·rw[show ((3:Int)-1)=2 from rfl] at hk ⊢;rw[decide_eq_false (show ¬((2:Int)=0) by decide),tff];rw[decide_eq_false (show ¬((2:Int)=1) by decide),tff];rw[decide_eq_true (show (2:Int)=2 from rfl),tft]
  change a0a (i0u _ a b (j0n s.1 2)) _=_
  rw[z0t (n+13),obs,tfn,tfd,o1y n hw 2,hk,obs];by_cases hs:(q0w a b (j0n s.1 2)).2.2=0
  ·rw[if_pos hs,if_pos hs,decide_eq_true rfl,tft,tfd];split<;>rfl
  ·rw[if_neg hs,if_neg hs]
theorem span_why (a b w:Int):(q0w a b w).2.2=0∨(q0w a b w).2.2=1∨(q0w a b w).2.2=10:=by
 unfold q0w;split
 ·split
  ·exact .inl rfl
  ·exact .inr (.inr rfl)
 ·exact .inr (.inl rfl)
theorem h2m (s:Sta) (k a b:Int):oneV s k a b=0∨oneV s k a b=1∨oneV s k a b=10∨oneV s k a b=11:=by
 unfold oneV;rcases span_why a b (j0n s.1 k) with h | h | h<;>rw[h]
 ·rw[if_pos rfl];split
  ·exact .inr (.inr (.inr rfl))
  ·exact .inl rfl
 ·exact .inr (.inl rfl)
 ·exact .inr (.inr (.inl rfl))
noncomputable def e0s (s:Sta) (a b:Int):Nat→Int→Int→Int×Int
 | 0,_,why=>(0,why)
 | d+1,t,why=>if oneV s (t-1) a b=0 then (t,0) else if oneV s (t-1) a b=1 then (0,1) else e0s s a b d (t+1) (if oneV s (t-1) a b=11 then 11 else why)
theorem f2b {s:Sta} {a b t:Int} (e:oneV s (t-1) a b=0) (d:Nat) (why:Int):e0s s a b (d+1) t why=(t,0):=by
 conv=>lhs;unfold e0s
 rw[if_pos e]
theorem f2a {s:Sta} {a b t:Int} (e:oneV s (t-1) a b=1) (d:Nat) (why:Int):e0s s a b (d+1) t why=(0,1):=by
 conv=>lhs;unfold e0s
 rw[if_neg (by omega),if_pos e]
theorem y1j {s:Sta} {a b t:Int} (e:oneV s (t-1) a b=10) (d:Nat) (why:Int):e0s s a b (d+1) t why=e0s s a b d (t+1) why:=by
 conv=>lhs;unfold e0s
 rw[if_neg (by omega),if_neg (by omega),if_neg (by omega)]
theorem y1i {s:Sta} {a b t:Int} (e:oneV s (t-1) a b=11) (d:Nat) (why:Int):e0s s a b (d+1) t why=e0s s a b d (t+1) 11:=by
 conv=>lhs;unfold e0s
 rw[if_neg (by omega),if_neg (by omega),if_pos e]
theorem i1e (n:Nat) {s:Sta} (hw:StaW s) (h:StaOk s) (a b:Int):∀(d f:Nat) (t why:Int),1≤t→t+d=4→d<f →
  d0i (n+17) f (a,b,s,why,t,())=some (if (e0s s a b d t why).2=0 then .inr (e0s s a b d t why) else if (e0s s a b d t why).2=1 then .inr (e0s s a b d t why) else .inl ((e0s s a b d t why).2,()))∨(why≠10∧why≠11):=by
 intro d;induction d with
 | zero =>
  intro f t why h1 ht hf;obtain ⟨f,rfl⟩:∃g,f=g+1:=⟨f-1,by omega⟩;by_cases hy:why≠10∧why≠11
  ·exact .inr hy
  refine .inl ?_;rw[k0t,decide_eq_false (by omega),tff];unfold e0s;rw[if_neg (by simp only;omega),if_neg (by simp only;omega)]
 | succ d ih =>
  intro f t why h1 ht hf;obtain ⟨f,rfl⟩:∃g,f=g+1:=⟨f-1,by omega⟩;by_cases hy:why≠10∧why≠11
  ·exact .inr hy
  refine .inl ?_;rw[k0t,decide_eq_true (by omega),tft,y0p n hw h h1 (by omega),obs,w64 (by omega) (by omega)];simp only[tfd];rcases h2m s (t-1) a b with e | e | e | e
  ·rw[f2b e,e,if_pos rfl,if_pos rfl]
  ·rw[f2a e,e,if_neg (by decide),if_neg (by decide),if_neg (by decide),if_neg (by decide),if_pos rfl]
  ·rw[y1j e,e,if_neg (by decide),if_pos rfl];exact (ih f (t+1) why (by omega) (by omega) (by omega)).resolve_right hy
  ·rw[y1i e,e,if_neg (by decide),if_neg (by decide),if_pos rfl];exact (ih f (t+1) 11 (by omega) (by omega) (by omega)).resolve_right (by decide)
theorem w1e (n:Nat) {s:Sta} (hw:StaW s) (h:StaOk s) (a b:Int):n0h (n+18) s a b=some (e0s s a b 3 1 10):=by
 rw[y0o]
 change a0a (d0i (n+17) a0b (a,b,s,10,1,())) _=_
 rw[(i1e n hw h a b 3 a0b 1 10 (by decide) rfl (by unfold a0b;omega)).resolve_right (by decide),obs];split
 ·rfl
 ·split
  ·rfl
  ·rename_i h0 h1;rw[a0y];have hz:(e0s s a b 3 1 10).1=0:=by
    have key:∀(d:Nat) (t why:Int),(e0s s a b d t why).2≠0→(e0s s a b d t why).1=0:=by
     intro d;induction d with
     | zero=>intro t why _;rfl
     | succ d ih =>
      intro t why;unfold e0s;split
      ·intro k;exact absurd rfl k
      ·split
       ·intro _;rfl
       ·exact ih _ _
    exact key 3 1 10 h0
   exact congrArg some (Prod.ext hz.symm rfl)
noncomputable def f0f (s:Sta) (t a b:Int):Int×Int :=
 if StaOk s then (if t<0∨3<t then (0,1) else if t=0 then e0s s a b 3 1 10 else if oneV s (t-1) a b=0 then (t,0) else (0,oneV s (t-1) a b)) else (0,2)
theorem k1f (n:Nat) {s:Sta} (hw:StaW s) (t a b:Int):u0s (n+19) s t a b=some (f0f s t a b):=by
 rw[n1d,k0o (n+4) hw,obs,tfn,tfd];unfold f0f;by_cases h:StaOk s
 case neg=>rw[if_neg h,if_neg h];rfl
 rw[if_pos h,if_pos h,if_pos rfl];simp only[tfd,tfn];by_cases h0:t<0
 ·rw[if_pos h0,if_pos (.inl h0)]
 by_cases h3:3<t
 ·rw[if_neg h0,if_pos h3,if_pos (.inr h3)]
 rw[if_neg h0,if_neg h3,if_neg (show ¬(t<0∨3<t) by omega)];by_cases hz:t=0
 ·rw[if_pos hz,if_pos hz,w1e n hw h,obs]
 ·rw[if_neg hz,if_neg hz,y0p (n+1) hw h (by omega) (by omega),obs];by_cases ho:oneV s (t-1) a b=0
  ·rw[if_pos ho,if_pos ho]
  ·rw[if_neg ho,if_neg ho]
def rateC (c:Cel):(Wd×Wd)×Int:=if c.2.2.2.2.2.2<1 then (((0,0),(0,0)),12) else rateV c.2.2.2.1 c.2.2.2.2.2.2
theorem c2i (n:Nat) {c:Cel} (hw:WdOk c.2.2.2.1) (hs:c.2.2.2.2.2.2≤9223372036854775807):a1n (n+7) c=some (rateC c):=by
 rw[n1e,tfd];unfold rateC;by_cases h:c.2.2.2.2.2.2<1
 ·rw[if_pos h,if_pos h]
 ·rw[if_neg h,if_neg h,wu64 (by omega) (by omega),c2e n hw ⟨by omega,by omega⟩,obs]
theorem c2a (n:Nat) (c:Conf) {s:Ser} (hw:SerW s) {k:Int} (h0:0≤k) (h2:k≤2) (i j:Int):e0g (n+22) c s k i j=some (c1f c s k i j):=by
 unfold c1f;rcases (by omega:k=0∨k=1∨k=2) with e | e | e
 ·subst e;rw[if_pos rfl];exact m1l n c hw i j
 ·subst e;rw[if_neg (by decide),if_pos rfl];exact m1k n c hw i j
 ·subst e;rw[if_neg (by decide),if_neg (by decide)];exact m1j n c hw i j
theorem span_ok {a b w:Int} (h:(q0w a b w).2.2=0):WidP w∧RngP a b∧a % w=0∧b % w=0∧q0w a b w=(a / w,(b / w,0))∧0≤a / w∧a / w≤b / w:=by
 unfold q0w at h ⊢;split at h
 ·rename_i h1;split at h
  ·rename_i h2;rw[if_pos h1,if_pos h2];exact ⟨h1.1,h1.2,h2.1,h2.2,rfl,Int.ediv_nonneg h1.2.1 (by have:=h1.1.1;omega),Int.ediv_le_ediv (by have:=h1.1.1;omega) (Int.le_of_lt h1.2.2.2)⟩
  ·cases h
 ·cases h
theorem one_ok {s:Sta} {k a b:Int} (h:oneV s k a b=0):(q0w a b (j0n s.1 k)).2.2=0∧(oldV s.2.1 (j0n s.1 k) (tierN s.1 k)).1≤(q0w a b (j0n s.1 k)).1:=by
 unfold oneV at h;split at h
 ·rename_i h1;split at h
  ·cases h
  ·exact ⟨h1,by omega⟩
 ·rename_i h1;exact absurd h h1
theorem which_ok {s:Sta} {a b:Int}:∀(d:Nat) (t why:Int),why≠0→(e0s s a b d t why).2=0→t≤(e0s s a b d t why).1∧(e0s s a b d t why).1<t+d∧oneV s ((e0s s a b d t why).1-1) a b=0:=by
 intro d;induction d with
 | zero=>intro t why hw h;exact absurd h hw
 | succ d ih =>
  intro t why hw h;rcases h2m s (t-1) a b with e | e | e | e
  ·rw[f2b e];exact ⟨by simp only;omega,by simp only;omega,e⟩
  ·rw[f2a e] at h;cases h
  ·rw[y1j e] at h ⊢;obtain ⟨h1,h2,h3⟩:=ih (t+1) why hw h;exact ⟨by omega,by omega,h3⟩
  ·rw[y1i e] at h ⊢;obtain ⟨h1,h2,h3⟩:=ih (t+1) 11 (by decide) h;exact ⟨by omega,by omega,h3⟩
theorem f2j {s:Sta} {t a b:Int} (h:(f0f s t a b).2=0):StaOk s∧1≤(f0f s t a b).1∧(f0f s t a b).1≤3∧oneV s ((f0f s t a b).1-1) a b=0∧0≤t∧t≤3∧(1≤t→(f0f s t a b).1=t):=by
 unfold f0f at h ⊢;by_cases hs:StaOk s
 case neg=>rw[if_neg hs] at h;cases h
 rw[if_pos hs] at h ⊢;by_cases h1:t<0∨3<t
 ·rw[if_pos h1] at h;cases h
 rw[if_neg h1] at h ⊢;by_cases h0:t=0
 ·rw[if_pos h0] at h ⊢;obtain ⟨k1,k2,k3⟩:=which_ok 3 1 10 (by decide) h;exact ⟨hs,k1,by omega,k3,by omega,by omega,by omega⟩
 ·rw[if_neg h0] at h ⊢;by_cases ho:oneV s (t-1) a b=0
  ·rw[if_pos ho];exact ⟨hs,by simp only;omega,by simp only;omega,ho,by omega,by omega,fun _=>rfl⟩
  ·rw[if_neg ho] at h;exact absurd h ho
noncomputable def e2k (s:Sta) (l:List Lab) (k a b:Int):Cel :=
 match z0i s l with
 | some i=>(c1f s.1 ((s.2.2.2[i]?).getD ser0) k (a / j0n s.1 k) (b / j0n s.1 k)).1
 | none=>z0
theorem found {s:Sta} (hs:StaOk s) {l:List Lab} {i:Nat} (h:z0i s l=some i):∃x,s.2.2.2[i]? = some x∧x.1=l∧LvX s x∧SerOk s.1 x:=by
 obtain ⟨x,hx,h1,h2,_⟩:=k1x.1 h;exact ⟨x,hx,h1,h2,(i2b hs (List.mem_of_getElem? hx) h2).1⟩
theorem r1l (n:Nat) {s:Sta} (hw:StaW s) (hs:StaOk s) {q:List Lab×(Int×(Int×Int))} {k:Int} (h0:0≤k) (h2:k≤2) (ho:oneV s k q.2.2.1 q.2.2.2=0):m1z (n+23) s q k=some (e2k s q.1 k q.2.2.1 q.2.2.2,0):=by
 obtain ⟨l,t,a,b⟩:=q;simp only at ho ⊢;rw[w1f];simp only;rw[stt_find (n+12) hw l,obs,tfn,tfd];unfold e2k;cases hf:z0i s l with
 | none=>rw[d2w hs.whole hf,if_neg (show ¬((3:Int)=0) by decide)];rfl
 | some i =>
  obtain ⟨x,hx,hxl,hlv,hok⟩:=found hs hf;obtain ⟨s1,s2⟩:=one_ok ho;obtain ⟨_,_,_,_,e,e1,e2⟩:=span_ok s1;have hfine:=w1c hok k e1 e2;rw[d2v hs.whole hf,if_pos rfl];simp only[hx,Option.getD_some];have fin:∀(x':Ser),x'=x→a0a (e0g (n+22) s.1 x' k (a / j0n s.1 k) (b / j0n s.1 k)) (fun r=>some r)=some ((c1f s.1 x k (a / j0n s.1 k) (b / j0n s.1 k)).1,0):=by
   rintro x' rfl;rw[c2a n s.1 (hw.at hx).1 h0 h2,obs];exact congrArg some (Prod.ext rfl hfine)
  rcases (by omega:k=0∨k=1∨k=2) with ek | ek | ek<;>subst ek
  ·rw[decide_eq_true rfl,tft]
   change a0a (i0u (n+22) a b (j0n s.1 0)) _=_
   rw[z0t (n+19),obs,e];simp only[decide_true,Bool.not_true,tff];rw[b1o hx,obs];exact fin x rfl
  ·rw[decide_eq_false (show ¬((1:Int)=0) by decide),tff,decide_eq_true rfl,tft]
   change a0a (i0u (n+22) a b (j0n s.1 1)) _=_
   rw[z0t (n+19),obs,e];simp only[decide_true,Bool.not_true,tff];rw[b1o hx,obs];exact fin x rfl
  ·rw[decide_eq_false (show ¬((2:Int)=0) by decide),tff,decide_eq_false (show ¬((2:Int)=1) by decide),tff,decide_eq_true rfl,tft]
   change a0a (i0u (n+22) a b (j0n s.1 2)) _=_
   rw[z0t (n+19),obs,e];simp only[decide_true,Bool.not_true,tff];rw[b1o hx,obs];exact fin x rfl
theorem mrgE_okc (a b:Cel):c0g (mrgE a b).1:=by
 unfold mrgE;split
 ·rename_i h;split
  ·rename_i ha;exact s1d h.1 h.2 ha
  ·exact t0p
 ·exact t0p
theorem a1m (ok:Prop) [Decidable ok] (i j last w:Int) (t:List Slo) (now:Cel×Int):c0g (e0w ok i j last w t now).1:=by
 unfold e0w;split
 ·split
  ·exact t0p
  split
  ·exact t0p
  split
  ·exact t0p
  split
  ·exact x0u _ _ _
  split
  ·exact x0u _ _ _
  split
  ·exact t0p
  ·exact mrgE_okc _ _
 ·exact t0p
theorem c2g (c:Conf) (s:Ser) (k i j:Int):c0g (c1f c s k i j).1:=by
 unfold c1f;split
 ·exact a1m _ _ _ _ _ _ _
 split
 ·exact a1m _ _ _ _ _ _ _
 ·exact a1m _ _ _ _ _ _ _
theorem a2i (s:Sta) (l:List Lab) (k a b:Int):c0g (e2k s l k a b):=by
 unfold e2k;split
 ·exact c2g _ _ _ _ _
 ·exact t0p
theorem g1w {c:Cel} (h:c0g c):WdOk c.2.2.2.1∧c.2.2.2.2.2.2≤9223372036854775807:=by
 rcases h with rfl | h
 ·exact ⟨⟨by simp[z0],by simp[z0]⟩,by simp[z0]⟩
 ·have h1:=h.s1;have h2:=h.l.t1;have h3:=h.f.t0;exact ⟨h.w,by omega⟩
abbrev zr:Int×(Cel×((Wd×Wd)×Int)):=(0,(z0,(((0,0),(0,0)),0)))
noncomputable def doQ (s:Sta) (l:List Lab) (t a b:Int):(Int×(Cel×((Wd×Wd)×Int)))×Int :=
 if StaOk s then (if LabOk l then (if (f0f s t a b).2=0 then (((f0f s t a b).1,(e2k s l ((f0f s t a b).1-1) a b,rateC (e2k s l ((f0f s t a b).1-1) a b))),0) else (zr,(f0f s t a b).2)) else (zr,8)) else (zr,2)
theorem n1a (n:Nat) {s:Sta} (hw:StaW s) (l:List Lab):f1k (n+15) s l=some (if StaOk s then (if LabOk l then 0 else 8) else 2):=by
 rw[r1m,k0o n hw,obs,tfn,tfd];by_cases h:StaOk s
 ·rw[if_pos h,if_pos h,if_pos rfl,n0k (n+8) l,obs]
 ·rw[if_neg h,if_neg h,if_neg (by decide)]
theorem y1y (n:Nat) {s:Sta} (hw:StaW s) (q:List Lab×(Int×(Int×Int))):d1r (n+24) s q=some (doQ s q.1 q.2.1 q.2.2.1 q.2.2.2):=by
 rw[w1g,n1a (n+8) hw,obs,tfn,tfd];unfold doQ;by_cases h:StaOk s
 case neg=>rw[if_neg h,if_neg h,if_neg (by decide)];rfl
 rw[if_pos h,if_pos h];by_cases hl:LabOk q.1
 case neg=>rw[if_neg hl,if_neg hl,if_neg (by decide)];rfl
 rw[if_pos hl,if_pos hl,if_pos rfl,k1f (n+4) hw,obs,tfn,tfd];by_cases ht:(f0f s q.2.1 q.2.2.1 q.2.2.2).2=0
 case neg=>rw[if_neg ht,if_neg ht];rfl
 obtain ⟨_,t1,t3,ho,_⟩:=f2j ht;have hr:=g1w (a2i s q.1 ((f0f s q.2.1 q.2.2.1 q.2.2.2).1-1) q.2.2.1 q.2.2.2);rw[if_pos ht,if_pos ht,w64 (by omega) (by omega),r1l n hw h (by omega) (by omega) ho,obs];simp only[decide_true,Bool.not_true,tff];rw[c2i (n+16) hr.1 hr.2,obs]
theorem u1e {s:Sta} (hs:StaOk s) (hn:s.2.2.2.length≤8):(allB s).length≤1000000:=by
 have hp:=p0s hs.whole.1.rng;rw[(u0e hs).2.1];have:s.2.2.2.length*(plc s.1).toNat≤8*20000:=Nat.mul_le_mul hn (by omega);omega
def putD:List (List UInt8)→List Chg→List (List UInt8)
 | l,[]=>l
 | l,x::r=>putD (l.set x.1.toNat x.2) r
def NewD:List (List UInt8)→List Chg→Prop
 | _,[]=>True
 | l,x::r=>(0≤x.1∧∃y,l[x.1.toNat]? = some y∧y≠x.2)∧NewD (l.set x.1.toNat x.2) r
theorem g2t:∀(r p q:List (List UInt8)) (a:List (List UInt8)),a.length=p.length+r.length→(∀j,p.length≤j→q[j]? = a[j]?)→q.length=a.length→q.take p.length=p→putD q (l0g a 0 p.length r)=p++r∧NewD q (l0g a 0 p.length r):=by
 intro r;induction r with
 | nil =>
  intro p q a hl hq hql hp;rw[l0g,putD,List.append_nil];exact ⟨by rw[←hp,List.take_of_length_le (by simp at hl;omega)],trivial⟩
 | cons x r ih =>
  intro p q a hl hq hql hp;have hlen:q.length=p.length+(r.length+1):=by rw[hql,hl];simp
  have key:∀q',q'.length=q.length→(∀j,p.length+1≤j→q'[j]? = q[j]?)→q'.take p.length=p→q'[p.length]? = some x→putD q' (l0g a 0 (p.length+1) r)=p++x::r∧NewD q' (l0g a 0 (p.length+1) r):=by
   intro q' h1 h2 h3 h4;have:=ih (p++[x]) q' a (by simp;simp at hl;omega) (fun j hj=>by rw[h2 j (by simpa using hj),hq j (by simp at hj;omega)]) (by rw[h1,hql]) (by
    rw[List.length_append,List.length_singleton,List.take_add_one,h3,h4];rfl)
   rw[List.length_append,List.length_singleton] at this;rw[List.append_assoc] at this;exact this
  rw[l0g];by_cases h:a[p.length]? = some x
  ·rw[if_pos h];exact key q rfl (fun _ _=>rfl) hp (by rw[hq _ (Nat.le_refl _),h])
  ·rw[if_neg h,putD,NewD];have e:((0:Int)+(p.length:Int)).toNat=p.length:=by omega
   simp only[e];have k:=key (q.set p.length x) (by simp) (fun j hj=>List.getElem?_set_ne (by omega)) (by rw[List.take_set_of_le (Nat.le_refl _),hp]) (by rw[List.getElem?_set_self (by omega)]);refine ⟨k.1,⟨by omega,q[p.length]'(by omega),List.getElem?_eq_getElem (by omega),fun hx=>h ?_⟩,k.2⟩;rw[←hq _ (Nat.le_refl _),List.getElem?_eq_getElem (by omega),hx]
theorem e2v {a b:Sta} (ha:StaW a) (hb:StaW b) (oa:StaOk a) (ob:StaOk b) (la:(allB a).length≤1000000) (lb:(allB b).length≤1000000) (h:allB a=allB b):a=b:=by
 have h1:=p0g 0 ha oa la;have h2:=p0g 0 hb ob lb;rw[h,h2] at h1;exact ((Prod.mk.inj (Option.some.inj h1)).1).symm
theorem x1s {a b:Sta} (ha:StaW a) (hb:StaW b) (oa:StaOk a) (ob:StaOk b) (la:(allB a).length≤1000000) (lb:(allB b).length≤1000000) (hl:(allB a).length=(allB b).length):l0g (allB a) 0 0 (allB b)=[]↔a=b:=by
 rw[←t1l];constructor
 ·intro h;refine e2v ha hb oa ob la lb (List.ext_getElem? fun j => ?_);by_cases hj:j<(allB b).length
  ·have:=h j hj
   rwa [Nat.zero_add] at this
  ·rw[List.getElem?_eq_none (by omega),List.getElem?_eq_none (by omega)]
 ·rintro rfl j _;rw[Nat.zero_add]
def valOf:List Lab→List UInt8→List UInt8
 | [],_=>[]
 | x::l,nm=>if (x.1==nm)=true then x.2 else valOf l nm
theorem j1i (nm:List UInt8):∀(A B:List Lab),(∀y∈A,(y.1==nm)=false)→valOf (A++B) nm=valOf B nm:=by
 intro A;induction A with
 | nil=>intro B _;rfl
 | cons x A ih =>
  intro B h;rw[List.cons_append,valOf,h x (by simp),if_neg (by decide),ih B fun y hy=>h y (by simp[hy])]
theorem b2a (nm:List UInt8) (l:List Lab) (h:∀y∈l,(y.1==nm)=false):valOf l nm=[]:=by
 have:=j1i nm l [] h;rw[List.append_nil] at this;rw[this];rfl
def hitM (m:Int×Lab) (l:List Lab):Bool :=
 if m.1=1 then valOf l m.2.1==m.2.2 else if m.1=2 then !(valOf l m.2.1==m.2.2) else if m.1=3 then decide (m.2.2.length≤(valOf l m.2.1).length)&&(List.take m.2.2.length (valOf l m.2.1)==m.2.2) else false
def k1q (ms:List (Int×Lab)) (l:List Lab):Bool:=ms.all fun m=>hitM m l
def MatR (m:Int×Lab):Prop:=1≤m.1∧m.1≤3∧LabOk [m.2]
def u1j (ms:List (Int×Lab)):Prop:=ms.length≤16∧∀m∈ms,MatR m
noncomputable instance (m:Int×Lab):Decidable (MatR m):=Classical.propDecidable _
noncomputable instance (ms:List (Int×Lab)):Decidable (u1j ms):=Classical.propDecidable _
theorem i2x (n:Nat) {del:Lab×Unit→Option Bool} {p:Lab→Bool} (hd:∀x,del (x,())=some (p x)) (l:List Lab) (hL:l.length≤1000000):∀(rest pre:List Lab) (f:Nat) (i len:Int),l=pre++rest→i=pre.length→len=l.length→rest.length<f →
  (d0e n f (l,del,len,i,())=some (.inl ())∧∀x∈rest,p x=false) ∨
  (∃A x B,rest=A++x::B∧(∀y∈A,p y=false)∧p x=true∧d0e n f (l,del,len,i,())=some (.inr (i+A.length))):=by
 intro rest;induction rest with
 | nil =>
  intro pre f i len hl hi hn hf;obtain ⟨f,rfl⟩:∃g,f=g+1:=⟨f-1,by simp at hf;omega⟩;rw[i0n];exact .inl ⟨by simp only[tfd,if_neg (idxe hl hi hn)],by simp⟩
 | cons x rest ih =>
  intro pre f i len hl hi hn hf;obtain ⟨f,rfl⟩:∃g,f=g+1:=⟨f-1,by simp at hf;omega⟩;rw[i0n];simp only[tfd,if_pos (idx hl hi hn),c0f hl hi,obs,hd,idxw hl hi (show l.length≤1000000000000 by omega)];cases hp:p x with
  | true=>exact .inr ⟨[],x,rest,rfl,by simp,hp,by simp⟩
  | false =>
   rw[tff];rcases ih (pre++[x]) f (i+1) len (idxl hl) (idxs hi) hn (by simp at hf;omega) with ⟨h1,h2⟩ | ⟨A,y,B,h1,h2,h3,h4⟩
   ·exact .inl ⟨h1,by intro z hz;rcases List.mem_cons.1 hz with rfl | hz;exact hp;exact h2 z hz⟩
   ·refine .inr ⟨x::A,y,B,by rw[h1];rfl,?_,h3,by rw[h4,List.length_cons,show i+1+(A.length:Int)=i+((A.length+1:Nat):Int) by omega]⟩;intro z hz;rcases List.mem_cons.1 hz with rfl | hz
    ·exact hp
    ·exact h2 z hz
theorem w1w (n:Nat) (l:List Lab) (hL:l.length≤1000000) (nm:List UInt8):w0v (n+2) l nm=some (valOf l nm):=by
 rw[i1m,t0c];rcases i2x n (del:=fun y0=>r0s (n+1) y0.1 nm) (p:=fun x=>x.1==nm) (fun x=>d1e n x nm) l hL l [] a0b 0 l.length rfl rfl rfl (by unfold a0b;omega) with ⟨h1,h2⟩ | ⟨A,x,B,h1,h2,h3,h4⟩
 ·rw[h1,b2a nm l h2];rfl
 ·rw[h4];simp only[obs,m0z];rw[decide_eq_false (by omega),tff,c0f h1 (by omega),obs,h1,j1i nm A _ h2,valOf,if_pos h3]
theorem d2o (n:Nat) (s p:List UInt8):strings_HasPrefix (n+2) s p=some (decide (p.length≤s.length)&&(List.take p.length s==p)):=by
 rw[v0b,p0m];by_cases h:p.length≤s.length
 ·rw[decide_eq_true (show ((p.length:Nat):Int)≤((s.length:Nat):Int) by omega),decide_eq_true (show (0:Int)≤((p.length:Nat):Int) by omega),decide_eq_true h,Int.toNat_natCast,List.drop_zero];rfl
 ·rw[decide_eq_false (show ¬((p.length:Nat):Int)≤((s.length:Nat):Int) by omega),decide_eq_false h];rfl
theorem c2z (n:Nat) (m:Int×Lab) (l:List Lab) (hL:l.length≤1000000):a1w (n+3) m l=some (hitM m l):=by
 rw[n1s,w1w n l hL,obs,tfd,tfd,tfd,d2o];unfold hitM;by_cases h1:m.1=1
 ·rw[if_pos h1,if_pos h1]
 rw[if_neg h1,if_neg h1];by_cases h2:m.1=2
 ·rw[if_pos h2,if_pos h2]
 rw[if_neg h2,if_neg h2];by_cases h3:m.1=3
 ·rw[if_pos h3,if_pos h3];rfl
 ·rw[if_neg h3,if_neg h3]
theorem i2w (n:Nat) {del:(Int×Lab)×Unit→Option Bool} {p:Int×Lab→Bool} (l:List (Int×Lab)) (hd:∀x∈l,del (x,())=some (p x)) (hL:l.length≤1000000):∀(rest pre:List (Int×Lab)) (f:Nat) (i len:Int),l=pre++rest→i=pre.length→len=l.length→rest.length<f →
  (c0r n f (l,del,len,i,())=some (.inl ())∧∀x∈rest,p x=false) ∨
  (∃k:Int,0≤k∧c0r n f (l,del,len,i,())=some (.inr k)∧∃x∈rest,p x=true):=by
 intro rest;induction rest with
 | nil =>
  intro pre f i len hl hi hn hf;obtain ⟨f,rfl⟩:∃g,f=g+1:=⟨f-1,by simp at hf;omega⟩;rw[h0m];exact .inl ⟨by simp only[tfd,if_neg (idxe hl hi hn)],by simp⟩
 | cons x rest ih =>
  intro pre f i len hl hi hn hf;obtain ⟨f,rfl⟩:∃g,f=g+1:=⟨f-1,by simp at hf;omega⟩;rw[h0m];simp only[tfd,if_pos (idx hl hi hn),c0f hl hi,obs,hd x (by rw[hl];simp),idxw hl hi (show l.length≤1000000000000 by omega)];cases hp:p x with
  | true=>exact .inr ⟨i,by omega,by simp,x,by simp,hp⟩
  | false =>
   rw[tff];rcases ih (pre++[x]) f (i+1) len (idxl hl) (idxs hi) hn (by simp at hf;omega) with ⟨h1,h2⟩ | ⟨k,h1,h2,y,hy,h3⟩
   ·exact .inl ⟨h1,by intro z hz;rcases List.mem_cons.1 hz with rfl | hz;exact hp;exact h2 z hz⟩
   ·exact .inr ⟨k,h1,h2,y,by simp[hy],h3⟩
theorem c1o (n:Nat) {del:(Int×Lab)×Unit→Option Bool} {p:Int×Lab→Bool} (l:List (Int×Lab)) (hd:∀x∈l,del (x,())=some (p x)) (hL:l.length≤1000000):d0o (n+2) l del=some (l.any p):=by
 rw[n0z,q0y];rcases i2w n l hd hL l [] a0b 0 l.length rfl rfl rfl (by unfold a0b;omega) with ⟨h1,h2⟩ | ⟨k,h1,h2,x,hx,h3⟩
 ·rw[h1];have:l.any p=false:=by rw[List.any_eq_false];intro x hx;simp[h2 x hx]
  rw[this];rfl
 ·rw[h2];have:l.any p=true:=List.any_eq_true.2 ⟨x,hx,h3⟩;simp[this,h1]
theorem n1r (n:Nat) (ms:List (Int×Lab)) (hm:ms.length≤1000000) (l:List Lab) (hL:l.length≤1000000):f1x (n+5) ms l=some (k1q ms l):=by
 rw[s1f,c1o (n+2) (p:=fun m => !hitM m l) ms (fun m _=>by
  show w0t (n+3+1) m l=_
  rw[i1i,c2z n m l hL];rfl) hm,obs]
 refine congrArg some ?_;unfold k1q;rw[List.any_eq_not_all_not];simp
theorem f1v (n:Nat) (m:Int×Lab) (h0:0≤m.1):w0r (n+7) m=some (decide (MatR m)):=by
 rw[i1g,n0k n,obs,tfn,tfd,tfd];have e1:MatR m→1≤m.1:=fun k=>k.1
 have e2:MatR m→m.1≤3:=fun k=>k.2.1
 by_cases h1:m.1=0
 ·rw[if_pos h1,decide_eq_false (fun k=>by have:=e1 k;omega)]
 rw[if_neg h1];by_cases h2:m.1<4
 case neg=>rw[if_neg h2,decide_eq_false (fun k=>by have:=e2 k;omega)]
 rw[if_pos h2];by_cases h3:LabOk [m.2]
 ·rw[if_pos h3,decide_eq_true (show MatR m from ⟨by omega,by omega,h3⟩)];rfl
 ·rw[if_neg h3,decide_eq_false (fun k:MatR m=>h3 k.2.2)];rfl
theorem f1w (n:Nat) (ms:List (Int×Lab)) (hm:ms.length≤1000000) (hk:∀m∈ms,0≤m.1):w0s (n+10) ms=some (if u1j ms then 0 else 2):=by
 rw[i1h,tfd];have e0:u1j ms→ms.length≤16:=fun k=>k.1
 by_cases h1:16<ms.length
 ·rw[if_pos (by omega),if_neg (fun k=>by have:=e0 k;omega)]
 rw[if_neg (by omega),c1o (n+7) (p:=fun m => !decide (MatR m)) ms (fun m h=>by
  show r0q (n+8+1) m=_
  rw[d1d,f1v (n+1) m (hk m h)];rfl) hm,obs]
 by_cases h:∀m∈ms,MatR m
 ·rw[if_pos (show u1j ms from ⟨by omega,h⟩),List.any_eq_false.2 (fun m hm=>by simp[h m hm])];rfl
 ·rw[if_neg (fun k:u1j ms=>h k.2)];have:∃m∈ms,¬MatR m:=Classical.byContradiction fun k=>h fun x hx=>Classical.byContradiction fun q=>k ⟨x,hx,q⟩
  obtain ⟨m,hm,q⟩:=this;rw[List.any_eq_true.2 ⟨m,hm,by simp[q]⟩];rfl
end Go.Proofs.YtagnkfbpgkckiaaGreatDoor

namespace Go.Plim
set_option linter.unusedVariables false
variable {α:Type}
def Stb (key:α→Int) (d' d:List α):Prop:=∀c:Int,(d'.filter fun x=>decide (key x=c))=d.filter fun x=>decide (key x=c)
structure Mvk (key:α→Int) (d d':List α) (a b:Nat):Prop where
 mv:Mv d d' a b
 st:Stb key d' d
theorem Mvk.perm {key:α→Int} {d d':List α} {a b:Nat} (h:Mvk key d d' a b):d'.Perm d:=h.mv.perm
theorem Mvk.out {key:α→Int} {d d':List α} {a b:Nat} (h:Mvk key d d' a b):∀i,(i<a∨b≤i)→d'[i]? = d[i]? := h.mv.out
theorem Mvk.len {key:α→Int} {d d':List α} {a b:Nat} (h:Mvk key d d' a b):d'.length=d.length:=h.mv.len
theorem Mvk.refl {key:α→Int} (d:List α) (a b:Nat):Mvk key d d a b:=⟨.refl _ _ _,fun _=>rfl⟩
theorem Mvk.trans {key:α→Int} {d d' d'':List α} {a b:Nat} (h:Mvk key d d' a b) (g:Mvk key d' d'' a b):Mvk key d d'' a b:=⟨h.mv.trans g.mv,fun c=>(g.st c).trans (h.st c)⟩
theorem Mvk.mono {key:α→Int} {d d':List α} {a b a' b':Nat} (h:Mvk key d d' a b) (ha:a'≤a) (hb:b≤b'):Mvk key d d' a' b':=⟨h.mv.mono ha hb,h.st⟩
theorem Mvk.all {key:α→Int} {d d':List α} {a b:Nat} {P:α→Prop} (h:Mvk key d d' a b) (hP:∀x∈d,P x):∀x∈d',P x:=fun x hx=>hP x (h.perm.mem_iff.1 hx)
end Go.Plim

namespace Go.Plim
set_option linter.unusedVariables false
variable {α:Type}
inductive Sel (key:α→Int):List α→List α→Prop
 | nil:Sel key [] []
 | step {A B:List α} {x:α} {out:List α} (hA:∀a∈A,key x<key a) (hB:∀b∈B,key x≤key b) (h:Sel key (A++B) out):Sel key (A++x::B) (x::out)
theorem Sel.perm {key:α→Int} {l out:List α} (h:Sel key l out):out.Perm l:=by
 induction h with
 | nil=>exact .refl _
 | step hA hB h ih=>exact (List.Perm.cons _ ih).trans List.perm_middle.symm
def rem:List α→List Bool→List α
 | x::l,d::ds=>if d=true then rem l ds else x::rem l ds
 | _,_=>[]
end Go.Plim

namespace Go.Proofs.YtagnkfbpgkckiaaGreatDoor
open Go.Flat Go.Plim
set_option linter.unusedVariables false
set_option linter.unusedSimpArgs false
abbrev Mat:=Int×(List UInt8×List UInt8)
abbrev Rpl:=Int×(Cel×((Wd×Wd)×Int))
abbrev Prt:=List Lab×Rpl
abbrev Tot:=Int×(Int×(Int×(Wd×(Int×(Int×Int)))))
def tz0:Tot:=(0,(0,(0,((0,0),(0,(0,0))))))
noncomputable def partOf (s:Sta) (ms:List Mat) (k a b:Int) (i:Nat):Option Prt :=
 match s.2.2.2[i]? with
 | some x=>if k1q ms x.1=true∧0<(doQ s x.1 k a b).1.2.1.1 then some (x.1,(doQ s x.1 k a b).1) else none
 | none=>none
noncomputable def g2z (s:Sta) (ms:List Mat) (k a b:Int):List Prt:=(w0u s).filterMap (partOf s ms k a b)
noncomputable def n0i (s:Sta) (ms:List Mat) (t a b:Int):List Prt×(Int×Int) :=
 if StaOk s then (if u1j ms then (if (f0f s t a b).2=0 then (g2z s ms (f0f s t a b).1 a b,((f0f s t a b).1,0)) else ([],(0,(f0f s t a b).2))) else ([],(0,2))) else ([],(0,2))
theorem b2h {s:Sta} {t a b:Int} (h:(f0f s t a b).2=0):f0f s (f0f s t a b).1 a b=((f0f s t a b).1,0):=by
 obtain ⟨hs,t1,t3,ho,_⟩:=f2j h;generalize (f0f s t a b).1=k at *
 unfold f0f;rw[if_pos hs,if_neg (by omega),if_neg (by omega),if_pos ho]
theorem doQ_fin {s:Sta} (hs:StaOk s) {l:List Lab} (hl:LabOk l) {t a b:Int} (h:(f0f s t a b).2=0):(doQ s l (f0f s t a b).1 a b).2=0:=by
 unfold doQ;rw[if_pos hs,if_pos hl,b2h h,if_pos rfl]
theorem live_lab {s:Sta} (hs:StaOk s) {i:Nat} (hi:i∈w0u s):∃x,s.2.2.2[i]? = some x∧LvX s x∧LabOk x.1:=by
 unfold w0u at hi;obtain ⟨h1,h2⟩:=List.mem_filter.1 hi;unfold lvAt at h2;cases hx:s.2.2.2[i]? with
 | none=>rw[hx] at h2;cases h2
 | some x =>
  rw[hx] at h2;have hl:LvX s x:=of_decide_eq_true h2;exact ⟨x,rfl,hl,(i2b hs (List.mem_of_getElem? hx) hl).1.lab⟩
theorem c2n (s:Sta) (ms:List Mat) (k a b:Int):(g2z s ms k a b).length≤(w0u s).length:=List.length_filterMap_le _ _
theorem l1q (n:Nat) {s:Sta} (hw:StaW s) (hs:StaOk s) (ms:List Mat) (hm:ms.length≤1000000) {t a b:Int} (ht:(f0f s t a b).2=0) (L:List Nat) (hL:L.length≤1000000) (hin:∀i∈L,i∈w0u s):∀(rest pre:List Nat) (out:List Prt) (f:Nat) (ix len:Int),L=pre++rest→ix=pre.length→len=L.length→rest.length<f→out.length≤pre.length →
  f0u (n+24) f (ms,a,b,s,(f0f s t a b).1,out,L.map Int.ofNat,len,ix,())=some (.inl ((f0f s t a b).1,out++rest.filterMap (partOf s ms (f0f s t a b).1 a b),())):=by
 intro rest;induction rest with
 | nil =>
  intro pre out f ix len hl hi hn hf ho;obtain ⟨f,rfl⟩:∃g,f=g+1:=⟨f-1,by simp at hf;omega⟩;rw[p0k,decide_eq_false (idxe hl hi hn),tff];simp
 | cons x rest ih =>
  intro pre out f ix len hl hi hn hf ho;obtain ⟨f,rfl⟩:∃g,f=g+1:=⟨f-1,by simp at hf;omega⟩;have hxi:=hin x (by rw[hl];simp);obtain ⟨y,hy,hlv,hlab⟩:=live_lab hs hxi;have hlen:=congrArg List.length hl;simp only[List.length_append,List.length_cons] at hlen;have hlm:L.map Int.ofNat=pre.map Int.ofNat++(x:Int)::rest.map Int.ofNat:=by rw[hl];simp
  have him:ix=((pre.map Int.ofNat).length:Int):=by rw[List.length_map];exact hi
  have next:=fun out' ho'=>ih (pre++[x]) out' f (ix+1) len (idxl hl) (idxs hi) hn (by simp at hf;omega) ho'
  rw[p0k,decide_eq_true (idx hl hi hn),tft,c0f hlm him,obs,x1g hlm him,obs,b1o hy,obs,n1r (n+19) ms hm y.1 (by have:=hlab.n1;omega),obs,idxw hl hi (by omega),tfn,s0u];have hp:partOf s ms (f0f s t a b).1 a b x=if k1q ms y.1=true∧0<(doQ s y.1 (f0f s t a b).1 a b).1.2.1.1 then some (y.1,(doQ s y.1 (f0f s t a b).1 a b).1) else none:=by
   unfold partOf;simp only[hy]
  by_cases h1:k1q ms y.1=true
  case neg =>
   rw[if_neg h1,next out (by simp;omega),List.filterMap_cons_none (by rw[hp,if_neg fun e=>h1 e.1])]
  rw[if_pos h1,y1y n hw,obs];simp only;rw[doQ_fin hs hlab ht];simp only[decide_true,Bool.not_true,tff];rw[tfd];by_cases h2:0<(doQ s y.1 (f0f s t a b).1 a b).1.2.1.1
  case neg =>
   rw[if_neg h2,next out (by simp;omega),List.filterMap_cons_none (by rw[hp,if_neg fun e=>h2 e.2])]
  rw[if_pos h2,decide_eq_true (show (out.length+1)*184≤140737488355328 by omega),tft,next _ (by simp;omega),List.filterMap_cons_some (by rw[hp,if_pos ⟨h1,h2⟩]),List.append_assoc];rfl
theorem z1q {s:Sta} (h:StaOk s):i2c s=(w0u s).map Int.ofNat:=if_pos h.whole
theorem s1h {s:Sta} (h:StaOk s):(w0u s).length≤65536:=by
 have:=w1u s;rw[z1q h,List.length_map] at this;exact this
theorem q1e (n:Nat) {s:Sta} (hw:StaW s) (ms:List Mat) (hm:ms.length≤1000000) (hk:∀m∈ms,0≤m.1) (t a b:Int):w0h (n+25) s ms t a b=some (n0i s ms t a b):=by
 rw[h1u,k0o (n+10) hw,obs];unfold n0i;by_cases h:StaOk s
 case neg=>rw[if_neg h,if_neg h];rfl
 rw[if_pos h,if_pos h,f1w (n+14) ms hm hk];simp only[decide_true,Bool.not_true,tff,obs];by_cases h2:u1j ms
 case neg=>rw[if_neg h2,if_neg h2];rfl
 rw[if_pos h2,if_pos h2,k1f (n+5) hw];simp only[decide_true,Bool.not_true,tff,obs,tfn,tfd];by_cases ht:(f0f s t a b).2=0
 case neg=>rw[if_neg ht,if_neg ht]
 have hL:=s1h h;rw[if_pos ht,if_pos ht,stt_live (n+16) hw,obs,z1q h];have:=l1q n hw h ms hm ht (w0u s) (by omega) (fun _ hi=>hi) (w0u s) [] [] a0b 0 _ rfl rfl rfl (by unfold a0b;omega) (Nat.le_refl _);rw[List.nil_append] at this;rw[List.length_map,this,obs,a0y];rfl
theorem c2l (s:Sta) (ms:List Mat) (t a b:Int):(n0i s ms t a b).1.length≤65536:=by
 unfold n0i;split
 ·rename_i h;split
  ·split
   ·exact Nat.le_trans (c2n _ _ _ _ _) (s1h h)
   ·simp
  ·simp
 ·simp
theorem doQ_cell (s:Sta) (l:List Lab) (t a b:Int):c0g (doQ s l t a b).1.2.1:=by
 unfold doQ;by_cases h1:StaOk s
 case neg=>rw[if_neg h1];exact t0p
 rw[if_pos h1];by_cases h2:LabOk l
 case neg=>rw[if_neg h2];exact t0p
 rw[if_pos h2];by_cases h3:(f0f s t a b).2=0
 case neg=>rw[if_neg h3];exact t0p
 rw[if_pos h3];exact a2i _ _ _ _ _
theorem partsV_w (s:Sta) (ms:List Mat) (t a b:Int):∀p∈(n0i s ms t a b).1,c0g p.2.2.1:=by
 intro p hp;unfold n0i at hp;split at hp
 ·rename_i h;split at hp
  ·split at hp
   ·obtain ⟨i,_,hi⟩:=List.mem_filterMap.1 hp;unfold partOf at hi;split at hi
    ·split at hi
     ·cases hi;simp only;exact doQ_cell _ _ _ _ _
     ·cases hi
    ·cases hi
   ·cases hp
  ·cases hp
 ·cases hp
def addT (a b:Tot):Tot×Int :=
 if a.1=b.1 then (if (addW a.2.2.2.1 b.2.2.2.1).2=0 then ((a.1,(IntKind.wrap .i64 (a.2.1+b.2.1),(IntKind.wrap .i64 (a.2.2.1+b.2.2.1),((addW a.2.2.2.1 b.2.2.2.1).1,(IntKind.wrap .i64 (a.2.2.2.2.1+b.2.2.2.2.1),(IntKind.wrap .i64 (a.2.2.2.2.2.1+b.2.2.2.2.2.1),IntKind.wrap .i64 (a.2.2.2.2.2.2+b.2.2.2.2.2.2))))))),0)
  else (tz0,(addW a.2.2.2.1 b.2.2.2.1).2)) else (tz0,2)
theorem f2h (n:Nat) {a b:Tot} (ha:WdOk a.2.2.2.1) (hb:WdOk b.2.2.2.1):x0r (n+3) a b=some (addT a b):=by
 rw[q1h,tfn,tfd];unfold addT;by_cases h:a.1=b.1
 case neg=>rw[if_neg h,if_neg h];rfl
 rw[if_pos h,if_pos h,y1h n ha hb,obs,tfn,tfd];by_cases h2:(addW a.2.2.2.1 b.2.2.2.1).2=0
 ·rw[if_pos h2,if_pos h2]
 ·rw[if_neg h2,if_neg h2];rfl
theorem addW_ok {a b:Wd} (ha:WdOk a) (hb:WdOk b):WdOk (addW a b).1:=by
 have:=o0b ha;have:=o0b hb;unfold addW;split
 ·exact s1e (by omega) (by omega)
 ·exact ⟨by simp,by simp⟩
theorem addT_w {a b:Tot} (ha:WdOk a.2.2.2.1) (hb:WdOk b.2.2.2.1):WdOk (addT a b).1.2.2.2.1:=by
 unfold addT;split
 ·split
  ·exact addW_ok ha hb
  ·exact ⟨by simp[tz0],by simp[tz0]⟩
 ·exact ⟨by simp[tz0],by simp[tz0]⟩
def oneT (k:Int) (c:Cel):Tot:=(k,(1,(c.1,c.2.2.2)))
def sumT (k:Int):Tot→List Prt→Tot×Int
 | t,[]=>(t,0)
 | t,p::r=>if (addT t (oneT k p.2.2.1)).2=0 then sumT k (addT t (oneT k p.2.2.1)).1 r else (tz0,(addT t (oneT k p.2.2.1)).2)
theorem cell_wd {c:Cel} (h:c0g c):WdOk c.2.2.2.1:=(g1w h).1
theorem b2e (n:Nat) (s10:Tot) (k:Int) (l:List Prt) (hL:l.length≤1000000) (hok:∀p∈l,c0g p.2.2.1):∀(rest pre:List Prt) (t:Tot) (f:Nat) (i len:Int),l=pre++rest→i=pre.length→len=l.length→rest.length<f→WdOk t.2.2.2.1 →
  m0n (n+3) f (s10,k,t,l,len,i,())=some (if (sumT k t rest).2=0 then .inl (s10,(sumT k t rest).1,()) else .inr (tz0,(sumT k t rest).2)):=by
 intro rest;induction rest with
 | nil =>
  intro pre t f i len hl hi hn hf ht;obtain ⟨f,rfl⟩:∃g,f=g+1:=⟨f-1,by simp at hf;omega⟩;rw[v0j,decide_eq_false (idxe hl hi hn),tff];rfl
 | cons x rest ih =>
  intro pre t f i len hl hi hn hf ht;obtain ⟨f,rfl⟩:∃g,f=g+1:=⟨f-1,by simp at hf;omega⟩;have hx:WdOk (oneT k x.2.2.1).2.2.2.1:=cell_wd (hok x (by rw[hl];simp));rw[v0j,decide_eq_true (idx hl hi hn),tft,c0f hl hi,obs,x1g hl hi,obs,q1f,obs]
  change a0a (x0r (n+3) t (oneT k x.2.2.1)) _=_
  rw[f2h n ht hx,obs,tfn,tfd,idxw hl hi (by omega)];unfold sumT;by_cases h:(addT t (oneT k x.2.2.1)).2=0
  ·rw[if_pos h,if_pos h,ih (pre++[x]) _ f (i+1) len (idxl hl) (idxs hi) hn (by simp at hf;omega) (addT_w ht hx)]
  ·rw[if_neg h,if_neg h,if_neg h];rfl
noncomputable def totV (s:Sta) (ms:List Mat) (t a b:Int):Tot×Int :=
 if (n0i s ms t a b).2.2=0 then sumT (n0i s ms t a b).2.1 ((n0i s ms t a b).2.1,(0,(0,((0,0),(0,(0,0)))))) (n0i s ms t a b).1 else (tz0,(n0i s ms t a b).2.2)
theorem sumT_err (k:Int):∀(l:List Prt) (t:Tot),(sumT k t l).2≠0→(sumT k t l).1=tz0:=by
 intro l;induction l with
 | nil=>intro t h;exact (h rfl).elim
 | cons p l ih =>
  intro t h;unfold sumT at h ⊢;split at h
  ·rename_i k1;rw[if_pos k1];exact ih _ h
  ·rename_i k1;rw[if_neg k1]
theorem total_do (n:Nat) {s:Sta} (hw:StaW s) (ms:List Mat) (hm:ms.length≤1000000) (hk:∀m∈ms,0≤m.1) (t a b:Int):l1r (n+26) s ms t a b=some (totV s ms t a b):=by
 rw[u1t,q1e n hw ms hm hk,obs,tfn,tfd];unfold totV;have hl:=c2l s ms t a b;have hok:=partsV_w s ms t a b;by_cases h:(n0i s ms t a b).2.2=0
 case neg=>rw[if_neg h,if_neg h];rfl
 rw[if_pos h,if_pos h];generalize n0i s ms t a b=p at *
 have:=b2e (n+22) tz0 p.2.1 p.1 (by omega) hok p.1 [] (p.2.1,(0,(0,((0,0),(0,(0,0)))))) a0b 0 _ rfl rfl rfl (by unfold a0b;omega) ⟨by simp,by simp⟩
 change a0a (m0n (n+25) a0b (tz0,p.2.1,(p.2.1,(0,(0,((0,0),(0,(0,0)))))),p.1,(p.1.length:Int),0,())) _=_
 rw[this,obs];generalize hz:sumT p.2.1 (p.2.1,(0,(0,((0,0),(0,(0,0)))))) p.1=z;have herr:=sumT_err p.2.1 p.1 (p.2.1,(0,(0,((0,0),(0,(0,0))))));rw[hz] at herr;by_cases h2:z.2=0
 ·rw[if_pos h2,a0y];exact congrArg some (Prod.ext rfl h2.symm)
 ·rw[if_neg h2,m0z];exact congrArg some (Prod.ext (herr h2).symm rfl)
def x1l:Conf:=(20,((10,(20,60)),((4,(5,6)),(3,9))))
def x12:Ser:=([([97],[])],(2,((0,(0,[(2,(1,(0,false)))])),((List.replicate 4 s0,(List.replicate 5 s0,List.replicate 6 s0)),(0,(1,((2,(1,(0,false))),((2,(1,(0,false))),((0,0),(0,(0,0)))))))))))
def S12:Sta:=(x1l,(0,((-1),[x12,ser0,ser0])))
theorem lvl12_0 (n:Nat):i2m (n+39)=some x1l:=by kernel_rfl
theorem lvl12_1 (n:Nat):f2s (n+39) x1l=some ((x1l,(0,((-1),[ser0,ser0,ser0]))),0):=by kernel_rfl
theorem lvl12_2 (n:Nat):p1s (n+39) (x1l,(0,((-1),[ser0,ser0,ser0]))) [([97],[])] (2,(1,(0,false)))=some (S12,0):=by kernel_rfl
theorem lvl12_3 (n:Nat):h0x (n+14) S12=some 0:=by kernel_rfl
theorem x12_w:SerW x12∧SerM x12:=by
 have r:∀k,∀s∈List.replicate k s0,SloW s:=fun k s hs=>by rw[(List.mem_replicate.1 hs).2];exact v1l
 have e:EvW (2,(1,(0,false))):=⟨by unfold I64;decide,by decide,by unfold I64;decide⟩;refine ⟨⟨by unfold I64;decide,fun y hy => ?_,⟨r 4,r 5,r 6⟩,⟨by unfold I64;decide,⟨by unfold I64;decide,e,e,?_,by unfold I64;decide,by unfold I64;decide,by unfold I64;decide⟩⟩⟩,⟨by decide,by decide,by decide,by decide,by decide⟩⟩
 ·rw[List.mem_singleton.1 hy];exact e
 ·exact ⟨by decide,by decide⟩
theorem S12_w:StaW S12:=⟨by decide,fun x hx=>by
 rcases List.mem_cons.1 hx with rfl | hx
 ·exact x12_w
 rcases List.mem_cons.1 hx with rfl | hx
 ·exact ⟨ser0_w,ser0_m⟩
 rw[List.mem_singleton.1 hx];exact ⟨ser0_w,ser0_m⟩⟩
theorem u1h:StaOk S12:=by
 have h:=lvl12_3 0;rw[k0o 0 S12_w] at h;by_cases k:StaOk S12
 ·exact k
 ·rw[if_neg k] at h;cases h
theorem plc12:plc x1l=8:=by decide
theorem live12:w0u S12=[0]:=by
 have e:LvX S12 x12:=⟨(fun h=>by have:=congrArg Prod.fst h;cases this),.inl rfl⟩;have l0:lvAt S12 0=true:=by show decide (LvX S12 x12)=true;exact decide_eq_true e
 have l1:lvAt S12 1=false:=by show decide (LvX S12 ser0)=false;exact decide_eq_false fun h=>h.1 rfl
 have l2:lvAt S12 2=false:=by show decide (LvX S12 ser0)=false;exact decide_eq_false fun h=>h.1 rfl
 unfold w0u;show (List.range 3).filter (lvAt S12)=[0];rw[show List.range 3=[0,1,2] from rfl,List.filter_cons,List.filter_cons,List.filter_cons,List.filter_nil,l0,l1,l2];rfl
def l2j:Rpl×Int:=((1,((1,((2,(1,(0,false))),((2,(1,(0,false))),((0,0),(0,(0,0)))))),(((0,0),(0,0)),12))),0)
theorem query12 (n:Nat):d1r (n+39) S12 ([([97],[])],(1,(0,10)))=some l2j:=by kernel_rfl
theorem doQ12:doQ S12 [([97],[])] 1 0 10=l2j:=by
 have h:=query12 0;rw[y1y 15 S12_w] at h;exact Option.some.inj h
theorem tier12:f0f S12 1 0 10=(1,0):=by
 have h:=doQ12;unfold doQ at h;rw[if_pos u1h] at h;by_cases h2:LabOk [(([97]:List UInt8),([]:List UInt8))]
 case neg=>rw[if_neg h2] at h;exact absurd (congrArg Prod.snd h) (by decide)
 rw[if_pos h2] at h;by_cases h3:(f0f S12 1 0 10).2=0
 case neg=>rw[if_neg h3] at h;exact absurd (congrArg Prod.snd h) h3
 unfold f0f at h3 ⊢;rw[if_pos u1h,if_neg (by decide),if_neg (by decide)] at h3 ⊢;by_cases h4:oneV S12 (1-1) 0 10=0
 ·rw[if_pos h4]
 ·rw[if_neg h4] at h3;exact absurd h3 h4
theorem matOk12:u1j []:=⟨by simp,fun m hm=>by cases hm⟩
theorem parts12:n0i S12 [] 1 0 10=([([([97],[])],l2j.1)],(1,0)):=by
 unfold n0i;rw[if_pos u1h,if_pos matOk12,tier12,if_pos rfl];unfold g2z;rw[live12];have:partOf S12 [] 1 0 10 0=some ([([97],[])],l2j.1):=by
  unfold partOf;show (if k1q [] x12.1=true∧0<(doQ S12 [([97],[])] 1 0 10).1.2.1.1 then some (x12.1,(doQ S12 [([97],[])] 1 0 10).1) else none)=_;rw[doQ12,if_pos ⟨rfl,by decide⟩];rfl
 rw[List.filterMap_cons,this];rfl
theorem tot12:∃T:Tot,totV S12 [] 1 0 10=(T,0)∧T.2.1=1∧T.2.2.1=1:=by
 unfold totV;rw[parts12,if_pos rfl];unfold sumT;have h:(addT (1,(0,(0,((0,0),(0,(0,0)))))) (oneT 1 l2j.1.2.1)).2=0:=by decide
 dsimp only;rw[if_pos h];unfold sumT;exact ⟨_,rfl,by decide,by decide⟩
theorem z0v (n:Nat):s0s (n+40)=some true:=by
 have hlen:(allB S12).length=25:=by rw[(u0e u1h).2.1];show 1+3*(plc x1l).toNat=25;rw[plc12];rfl
 obtain ⟨T,hT,h1,h2⟩:=tot12;rw[e1l,lvl12_0,obs,lvl12_1,obs,decide_eq_true rfl,Bool.not_true,tff,lvl12_2,obs];dsimp only;rw[p1p (n+23) S12_w,if_pos u1h,obs,total_do (n+13) S12_w [] (by simp) (fun m hm=>by cases hm),hT,obs];dsimp only;rw[hlen,h1,h2];rfl
theorem w1i (n:Nat) (a b:Sta) (m:List (List UInt8)) (d:List Chg) (hd:d.length≤10000000):∀(rest pre:List Chg) (l:List (List UInt8)) (f:Nat) (i len:Int),d=pre++rest→i=pre.length→len=d.length→rest.length<f→NewD l rest →
  g0b n f (a,b,l,m,d,len,i,())=some (.inl (a,b,putD l rest,m,d,())):=by
 intro rest;induction rest with
 | nil =>
  intro pre l f i len ha hi hl hf hn;obtain ⟨f,rfl⟩:∃g,f=g+1:=⟨f-1,by simp at hf;omega⟩;rw[k0n,decide_eq_false (idxe ha hi hl),tff];rfl
 | cons x r ih =>
  intro pre l f i len ha hi hl hf hn;obtain ⟨f,rfl⟩:∃g,f=g+1:=⟨f-1,by simp at hf;omega⟩;have hlen:=congrArg List.length ha;simp only[List.length_append,List.length_cons] at hlen;obtain ⟨⟨h0,y,hy,hne⟩,hr⟩:=hn;have hlt:=(List.getElem?_eq_some_iff.1 hy).1;have hat:at? l x.1=some y:=by
   have:=b1o hy
   rwa [show ((x.1.toNat:Nat):Int)=x.1 by omega] at this
  rw[k0n,decide_eq_true (idx ha hi hl),tft,c0f ha hi,obs,x1g ha hi,obs,decide_eq_false (show ¬x.1<0 by omega),tff,decide_eq_false (show ¬((l.length:Nat):Int)≤x.1 by omega),tff,hat,obs,hy,obs,
   beq_eq_false_iff_ne.2 hne,tff,obs,obs,idxw ha hi (by omega)]
  exact ih (pre++[x]) _ f (i+1) len (idxl ha) (idxs hi) hl (by simp at hf;omega) hr
theorem conf_dec {a b:Conf} (h:((decide (a.1=b.1))&&((decide (a.2.1.1=b.2.1.1))&&((decide (a.2.1.2.1=b.2.1.2.1))&&((decide (a.2.1.2.2=b.2.1.2.2))&&((decide (a.2.2.1.1=b.2.2.1.1))&&((decide (a.2.2.1.2.1=b.2.2.1.2.1))&&((decide (a.2.2.1.2.2=b.2.2.1.2.2))&&((decide (a.2.2.2.1=b.2.2.2.1))&&(decide (a.2.2.2.2=b.2.2.2.2))))))))))=true):a=b:=by
 simp only[Bool.and_eq_true,decide_eq_true_eq] at h;obtain ⟨h1,h2,h3,h4,h5,h6,h7,h8,h9⟩:=h;exact Prod.ext h1 (Prod.ext (Prod.ext h2 (Prod.ext h3 h4)) (Prod.ext (Prod.ext h5 (Prod.ext h6 h7)) (Prod.ext h8 h9)))
theorem e1m (n:Nat) (a b:Sta) (ha:Wf a0j a) (hb:Wf a0j b):v0k (n+41) a b=some true:=by
 have hwa:=sta_wf ha;have hwb:=sta_wf hb;rw[z0w,z0v n,obs,Bool.not_true,tff];rcases s1k (n+37) hwa with h | ⟨h,h8⟩
 ·rw[h];rfl
 rw[h,obs,show (decide ((1:Int)=0))=false from rfl,tff];rcases s1k (n+37) hwb with k | ⟨k,k8⟩
 ·rw[k];rfl
 rw[k,obs,show (decide ((1:Int)=0))=false from rfl,tff];generalize hcc:((decide (a.1.1=b.1.1))&&((decide (a.1.2.1.1=b.1.2.1.1))&&((decide (a.1.2.1.2.1=b.1.2.1.2.1))&&((decide (a.1.2.1.2.2=b.1.2.1.2.2))&&((decide (a.1.2.2.1.1=b.1.2.2.1.1))&&((decide (a.1.2.2.1.2.1=b.1.2.2.1.2.1))&&((decide (a.1.2.2.1.2.2=b.1.2.2.1.2.2))&&((decide (a.1.2.2.2.1=b.1.2.2.2.1))&&(decide (a.1.2.2.2.2=b.1.2.2.2.2))))))))))=cc;cases cc with
 | false=>rw[Bool.not_false,tft]
 | true =>
  have hconf:a.1=b.1:=conf_dec hcc;rw[Bool.not_true,tff,k0o (n+26) hwa,obs];by_cases oa:StaOk a
  case neg=>rw[if_neg oa];rfl
  rw[if_pos oa,show (decide ((0:Int)=0))=true from rfl,Bool.not_true,tff,k0o (n+26) hwb,obs];by_cases ob':StaOk b
  case neg=>rw[if_neg ob'];rfl
  rw[if_pos ob',show (decide ((0:Int)=0))=true from rfl,Bool.not_true,tff,tfd];by_cases h64:(64:Int)<a.1.1
  ·rw[if_pos h64]
  rw[if_neg h64,p1p (n+24) hwa,if_pos oa,obs,p1p (n+24) hwb,if_pos ob',obs];dsimp only;have la:=u1e oa h8;have lb:=u1e ob' k8;have hlen:(allB a).length=(allB b).length:=by
   rw[(u0e oa).2.1,(u0e ob').2.1,hconf];have h1:=oa.whole.2;have h2:=ob'.whole.2;rw[hconf] at h1;rw[show a.2.2.2.length=b.2.2.2.length by omega]
  rw[show (decide ((0:Int)=0))=true from rfl,Bool.not_true,tff,tff,decide_eq_true (by rw[hlen]),Bool.not_true,tff,diff_val (n+39) _ _ 0 (by omega) (by omega) (by omega),obs];have hpd:=g2t (allB b) [] (allB a) (allB a) (by simpa using hlen) (fun _ _=>rfl) rfl rfl;have hdl:=a2d (allB a) 0 (allB b) 0;rw[w1i (n+40) a b (allB b) (l0g (allB a) 0 0 (allB b)) (by omega) (l0g (allB a) 0 0 (allB b)) [] (allB a) a0b 0 _ rfl rfl rfl (by unfold a0b;omega) hpd.2,obs,a0y];dsimp only
  rw[show putD (allB a) (l0g (allB a) 0 0 (allB b))=allB b from hpd.1,p0g (n+23) hwb ob' lb,obs,g2g (n+39) _ _ (by omega),decide_eq_true rfl,obs,tft,show (decide ((0:Int)=0))=true from rfl,tft];dsimp only;rw[y1p (n+35) hwb,decide_eq_true rfl,obs,tft,y1p (n+35) hwa,obs];have hs:=x1s hwa hwb oa ob' la lb hlen;by_cases e:a=b
  ·rw[hs.2 e,decide_eq_true e];rfl
  ·rw[decide_eq_false e];have:l0g (allB a) 0 0 (allB b)≠[]:=fun h=>e (hs.1 h)
   have:0<(l0g (allB a) 0 0 (allB b)).length:=List.length_pos_iff.2 this;rw[decide_eq_false (by omega)];rfl
end Go.Proofs.YtagnkfbpgkckiaaGreatDoor
