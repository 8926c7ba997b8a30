/-
  Plain proofs about the functions of this seat, part 3 of 4.
-/
import Derived.Test.YtjeabebacegikaaGreatDoorQ2
import Derived.Test.YtjeabebacegikaaGreatDoorTr
namespace Go.Proofs.YtjeabebacegikaaGreatDoor
open Go.Flat Go.Plim
set_option linter.unusedVariables false
set_option linter.unusedSimpArgs false
def Moves (s:Sta) (now:Int):Prop:=StaOk s∧s.2.1<now∧now<35184372088832
noncomputable instance (s now):Decidable (Moves s now):=Classical.propDecidable _
def tickS (s:Sta) (now:Int):Sta:=(s.1,(now,s.2.2))
noncomputable def tickV (s:Sta) (now:Int):Sta×Bool:=if Moves s now then (tickS s now,true) else (s,false)
theorem csc_tick (n:Nat) {s:Sta} (hw:StaW s) (now:Int):csc_Tick (n+15) s now=some (tickV s now):=by
  rw[csc_Tick_eq,stt_check n hw]
  unfold tickV
  simp only[tfd,tfn,obs]
  by_cases h:Moves s now
  · rw[if_neg (by have:=h.2.1;omega),if_neg (by have:=h.2.2;omega),if_pos h.1,if_pos rfl,if_pos h];rfl
  · rw[if_neg h]
    by_cases h1:now≤s.2.1
    · rw[if_pos h1]
    rw[if_neg h1]
    by_cases h2:35184372088832≤now
    · rw[if_pos h2]
    rw[if_neg h2,if_neg (fun k:StaOk s=>h ⟨k,by omega,by omega⟩)];rfl
theorem tickS_w {s:Sta} (hw:StaW s) (now:Int):StaW (tickS s now):=⟨hw.len,hw.ser⟩
theorem tickV_w {s:Sta} (hw:StaW s) (now:Int):StaW (tickV s now).1:=by
  unfold tickV;split
  · exact tickS_w hw now
  · exact hw
theorem tick_ok {s:Sta} {now:Int} (h:Moves s now):StaOk (tickS s now):=by
  obtain ⟨h,h1,h2⟩:=h
  have t0:=h.clock.1.1
  have hr:=h.whole.1.rng.w0
  refine ⟨h.whole,⟨⟨by show 0≤now;omega,h2⟩,h.clock.2.1,by have:=h.clock.2.2;show s.2.2.1≤now;omega⟩,fun i x hx => ?_⟩
  rcases h.right i x hx with k | ⟨k1,k2,k3,k4⟩
  · exact .inl k
  · refine .inr ⟨k1,k2,?_,k4⟩
    have:mk s≤mk (tickS s now):=Int.mul_le_mul_of_nonneg_right (Int.ediv_le_ediv (by omega) (by show s.2.1≤now;omega)) (by omega)
    show x.2.1<mk (tickS s now)+s.1.2.1.1
    omega
def tierW (c:Conf) (k:Int):Int:=if k=0 then c.2.1.1 else if k=1 then c.2.1.2.1 else c.2.1.2.2
def tierN (c:Conf) (k:Int):Int:=if k=0 then c.2.2.1.1 else if k=1 then c.2.2.1.2.1 else c.2.2.1.2.2
noncomputable def keptV (s:Sta) (k:Int):Int×(Int×Int) :=
  if StaOk s then (if k<0∨2<k then (0,(0,1)) else ((oldV s.2.1 (tierW s.1 k) (tierN s.1 k)).1,(s.2.1 / tierW s.1 k,0))) else (0,(0,2))
theorem old_none {now w m:Int} (h:OfP now w) (hm:1≤m∧m≤4096):(oldV now w m).2=0:=by
  unfold oldV;rw[if_pos ⟨h,hm.1,hm.2⟩]
theorem csc_kept (n:Nat) {s:Sta} (hw:StaW s) (k:Int):csc_Kept (n+16) s k=some (keptV s k):=by
  rw[csc_Kept_eq,csc_tiers_eq,stt_check n hw]
  unfold keptV
  by_cases h:StaOk s
  case neg=>rw[if_neg h,if_neg h];rfl
  rw[if_pos h,if_pos h]
  have hr:=h.whole.1.rng
  have ht:=h.clock.1
  simp only[obs,decide_true,Bool.not_true,tff,tfd,tfn,wi_oldest (n+11)]
  by_cases h1:k<0
  · rw[if_pos h1,if_pos (Or.inl h1)];rfl
  rw[if_neg h1]
  by_cases h2:3≤k
  · rw[if_pos h2,if_pos (show k<0∨2<k by omega)];rfl
  rw[if_neg h2,if_neg (show ¬(k<0∨2<k) by omega)]
  simp only[obs,if_true]
  have q0:=quo_at ht hr.w0.1;have q1:=quo_at ht hr.w1.1;have q2:=quo_at ht hr.w2.1
  rcases (by omega:k=0∨k=1∨k=2) with e | e | e
  · subst e
    simp only[if_true,if_neg (nz hr.w0.1),q0,old_none ⟨ht.1,ht.2,hr.w0.1,hr.w0.2⟩ hr.n0];rfl
  · subst e
    simp only[if_true,if_neg (show ¬((1:Int)=0) by decide),if_neg (nz hr.w1.1),q1,old_none ⟨ht.1,ht.2,hr.w1.1,hr.w1.2⟩ hr.n1];rfl
  · subst e
    simp only[if_true,if_neg (show ¬((2:Int)=0) by decide),if_neg (show ¬((2:Int)=1) by decide),if_neg (nz hr.w2.1),q2,old_none ⟨ht.1,ht.2,hr.w2.1,hr.w2.2⟩ hr.n2];rfl
def KeepP (o:Int) (r:Int×Int) (s:Slo):Prop:=¬(s.1<o∧(s.1<r.1∨r.2≤s.1))
instance (o r s):Decidable (KeepP o r s):=by unfold KeepP;infer_instance
def fadeT (o:Int) (r:Int×Int) (l:List Slo):List Slo:=l.map fun s=>if KeepP o r s then s else s0
theorem fadeT_len (o r) (l:List Slo):(fadeT o r l).length=l.length:=by simp[fadeT]
theorem fadeT_ok {o r} {l:List Slo} {w:Int} (h:TierOk l w):TierOk (fadeT o r l) w:=by
  refine ⟨by rw[fadeT_len];exact h.l0,by rw[fadeT_len];exact h.l1,h.w0,h.w1,fun j s hs => ?_⟩
  rw[fadeT_len]
  unfold fadeT at hs
  rw[List.getElem?_map] at hs
  cases ha:l[j]? with
  | none=>rw[ha] at hs;cases hs
  | some a =>
    rw[ha] at hs
    simp only[Option.map_some,Option.some.injEq] at hs
    split at hs
    · rw[←hs];exact h.s j a ha
    · exact .inl hs.symm
theorem fadeT_nb {o r} {l:List Slo} {a:Int} (h:NoBehind l a):NoBehind (fadeT o r l) a:=by
  intro s hs hc
  unfold fadeT at hs
  obtain ⟨x,hx,e⟩:=List.mem_map.1 hs
  split at e
  · rw[←e] at hc ⊢;exact h x hx hc
  · rw[←e] at hc;exact absurd hc (by decide)
def need0 (c:Conf) (last:Int):Int×Int:=(last / c.2.1.2.1*(c.2.1.2.1 / c.2.1.1),last / c.2.1.2.1*(c.2.1.2.1 / c.2.1.1)+c.2.1.2.1 / c.2.1.1)
def need1 (c:Conf) (last:Int):Int×Int:=(last / c.2.1.2.2*(c.2.1.2.2 / c.2.1.2.1),last / c.2.1.2.2*(c.2.1.2.2 / c.2.1.2.1)+c.2.1.2.2 / c.2.1.2.1)
noncomputable def cleanX (c:Conf) (now:Int) (x:Ser):Ser :=
  (x.1,(x.2.1,(x.2.2.1,((fadeT (oldV now c.2.1.1 c.2.2.1.1).1 (need0 c x.2.1) x.2.2.2.1.1,(fadeT (oldV now c.2.1.2.1 c.2.2.1.2.1).1 (need1 c x.2.1) x.2.2.2.1.2.1,fadeT (oldV now c.2.1.2.2 c.2.2.1.2.2).1 (0,0) x.2.2.2.1.2.2)),x.2.2.2.2))))
theorem cleanX_fold {c:Conf} {now:Int} {x:Ser} (h:FoldOk c x.2.2.2.1):FoldOk c (cleanX c now x).2.2.2.1 :=
  ⟨h.cok,by simpa [cleanX,fadeT_len] using h.n0,by simpa [cleanX,fadeT_len] using h.n1,by simpa [cleanX,fadeT_len] using h.n2,fadeT_ok h.t0,fadeT_ok h.t1,fadeT_ok h.t2⟩
theorem cleanX_ok {c:Conf} {now:Int} {x:Ser} (h:SerOk c x):SerOk c (cleanX c now x):=by
  refine ⟨cleanX_fold h.fold,h.lab,h.raw,?_⟩
  rcases h.st with ⟨k1,k2⟩ | ⟨k1,k2⟩
  · exact .inl ⟨k1,k2.raw,k2.opn,fadeT_nb k2.b0,fadeT_nb k2.b1,fadeT_nb k2.b2⟩
  · exact .inr ⟨k1,k2.last,k2.ol,k2.fit,fadeT_nb k2.b0,fadeT_nb k2.b1,fadeT_nb k2.b2⟩
theorem mrgE_fine {a b:Cel} (ha:CellOk a) (hb:CellOk b) (h:Ahead a b):mrgE a b=(mrg a b,0):=by
  unfold mrgE;rw[if_pos ⟨ha,hb⟩,if_pos h]
theorem allE_last {w:Int}:∀(L:List Slo) (c:Cel) (lo hi:Int),Up L→(∀s∈L,FitsP s.2 w s.1∧lo≤s.1∧s.1<hi)→CellOk c→(c=z0∨c.2.2.1.1 / w<lo)→lo≤hi→(allE c (L.map (·.2))).1=z0∨(allE c (L.map (·.2))).1.2.2.1.1 / w<hi:=by
  intro L
  induction L with
  | nil=>intro c lo hi _ _ _ h hle;rcases h with h | h;exact .inl h;exact .inr (by simp only[List.map_nil,allE];omega)
  | cons s L ih =>
    intro c lo hi hu hs hc hl hle
    unfold Up at hu
    rw[List.pairwise_cons] at hu
    obtain ⟨hf,h1,h2⟩:=hs s (by simp)
    have ha:Ahead c s.2:=by
      rcases hl with h | h
      · exact .inl h
      · refine .inr (.inr ?_)
        have e:=hf.f
        rcases Int.lt_or_le c.2.2.1.1 s.2.2.1.1 with q | q
        · exact q
        · have:=Int.ediv_le_ediv (c:=w) (by have:=hf.w0;omega) q
          omega
    simp only[List.map_cons,allE]
    rw[mrgE_fine hc hf.n.ok ha,if_pos rfl]
    refine ih _ (s.1+1) hi hu.2 (fun x hx=>⟨(hs x (by simp[hx])).1,by have:=hu.1 x hx;omega,(hs x (by simp[hx])).2.2⟩) (mrg_ok hc hf.n.ok ha) (.inr ?_) (by omega)
    have el:(mrg c s.2).2.2.1.1=s.2.2.2.1.1:=by
      unfold mrg
      by_cases k:c=z0
      · rw[if_pos k]
      · rw[if_neg k,if_neg hf.n.ne]
    rw[el,hf.l];omega
theorem tfold_last {t:List Slo} {w i j a:Int} (h:TierOk t w) (hb:NoBehind t a) (h0:0≤i) (ha:i≤a):CellOk (tfold t i j).1∧((tfold t i j).1=z0∨(tfold t i j).1.2.2.1.1 / w<a):=by
  refine ⟨tfold_okc _ _ _,?_⟩
  unfold tfold
  split
  · exact .inl rfl
  · unfold within
    have hn:=(noBehind_iff h a).1 hb
    refine allE_last (w:=w) _ z0 i a ((tall_up h).filter _) (fun s hs => ?_) ok_z0 (.inl rfl) ha
    obtain ⟨s1,s2⟩:=List.mem_filter.1 hs
    have s2:=of_decide_eq_true s2
    exact ⟨(tall_fits h s1).1,s2.1,hn s s1⟩
theorem ahead_of {a b:Cel} {w k:Int} (hw:1≤w) (ha:a=z0∨a.2.2.1.1 / w<k) (hb:b=z0∨b.2.1.1 / w=k):Ahead a b:=by
  rcases ha with ha | ha
  · exact .inl ha
  rcases hb with hb | hb
  · exact .inr (.inl hb)
  refine .inr (.inr ?_)
  rcases Int.lt_or_le a.2.2.1.1 b.2.1.1 with q | q
  · exact q
  · have:=Int.ediv_le_ediv (c:=w) (by omega) q
    omega
theorem allE_first {w:Int}:∀(L:List Slo) (c:Cel) (lo:Int),Up L→(∀s∈L,FitsP s.2 w s.1∧lo≤s.1)→CellOk c→(c=z0∨c.2.2.1.1 / w<lo)→∀b:Int,(c=z0∨b≤c.2.1.1 / w)→b≤lo→(allE c (L.map (·.2))).1=z0∨b≤(allE c (L.map (·.2))).1.2.1.1 / w:=by
  intro L
  induction L with
  | nil=>intro c lo _ _ _ _ b hb _;exact hb
  | cons s L ih =>
    intro c lo hu hs hc hl b hb hbl
    unfold Up at hu
    rw[List.pairwise_cons] at hu
    obtain ⟨hf,h1⟩:=hs s (by simp)
    have ha:Ahead c s.2:=by
      rcases hl with h | h
      · exact .inl h
      · refine .inr (.inr ?_)
        have e:=hf.f
        rcases Int.lt_or_le c.2.2.1.1 s.2.2.1.1 with q | q
        · exact q
        · have:=Int.ediv_le_ediv (c:=w) (by have:=hf.w0;omega) q
          omega
    simp only[List.map_cons,allE]
    rw[mrgE_fine hc hf.n.ok ha,if_pos rfl]
    refine ih _ (s.1+1) hu.2 (fun x hx=>⟨(hs x (by simp[hx])).1,by have:=hu.1 x hx;omega⟩) (mrg_ok hc hf.n.ok ha) (.inr ?_) b ?_ (by omega)
    · have el:(mrg c s.2).2.2.1.1=s.2.2.2.1.1:=by
        unfold mrg
        by_cases k:c=z0
        · rw[if_pos k]
        · rw[if_neg k,if_neg hf.n.ne]
      rw[el,hf.l];omega
    · unfold mrg
      by_cases k:c=z0
      · rw[if_pos k,hf.f];exact .inr (by omega)
      · rw[if_neg k,if_neg hf.n.ne]
        rcases hb with hb | hb
        · exact absurd hb k
        · exact .inr hb
theorem tfold_first {t:List Slo} {w i j:Int} (h:TierOk t w) (h0:0≤i):(tfold t i j).1=z0∨i≤(tfold t i j).1.2.1.1 / w:=by
  unfold tfold
  split
  · exact .inl rfl
  · unfold within
    refine allE_first (w:=w) _ z0 i ((tall_up h).filter _) (fun s hs => ?_) ok_z0 (.inl rfl) i (.inl rfl) (Int.le_refl _)
    obtain ⟨s1,s2⟩:=List.mem_filter.1 hs
    have s2:=of_decide_eq_true s2
    exact ⟨(tall_fits h s1).1,s2.1⟩
theorem now_up {t:List Slo} {a b T:Int} {cur:Cel} (h:TierOk t a) (hb:NoBehind t (T / a)) (ha:1≤a) (hb1:1≤b) (hm:b % a=0) (hT:0≤T) (hc:CellN cur) (hf:cur.2.1.1 / a=T / a) :
    ∃m,mrgE (tfold t (T / b*(b / a)) (T / a)).1 cur=(m,0)∧CellN m∧m.2.1.1 / b=T / b:=by
  have hp:=factor_pos ha hb1 hm
  have q:=(edvm (t:=T) ha hb1 hm).2
  have hT':0≤T / b:=Int.ediv_nonneg hT (by omega)
  have u0:T / b*(b / a)≤T / a:=by rw[←q];exact Int.ediv_mul_le _ (by omega)
  have p0:0≤T / b*(b / a):=Int.mul_nonneg hT' (by omega)
  obtain ⟨k1,k2⟩:=tfold_last (j:=T / a) h hb p0 u0
  have k3:=tfold_first (j:=T / a) h p0
  have hah:=ahead_of ha k2 (.inr hf)
  refine ⟨_,mrgE_fine k1 hc.ok hah,?_,?_⟩
  · rcases k1 with z | z
    · rw[z,z0_mrg];exact hc
    · rcases hah with y | y | y
      · rw[y,z0_mrg];exact hc
      · exact absurd y hc.ne
      · exact mrg_N z hc y
  · unfold mrg
    by_cases z:(tfold t (T / b*(b / a)) (T / a)).1=z0
    · rw[if_pos z,←(edvm (t:=cur.2.1.1) ha hb1 hm).2,hf,q]
    · rw[if_neg z,if_neg hc.ne]
      have z1:=k2.resolve_left z
      have z2:=k3.resolve_left z
      have z3:=(k1.n z).ft
      have z4:(tfold t (T / b*(b / a)) (T / a)).1.2.1.1 / a≤(tfold t (T / b*(b / a)) (T / a)).1.2.2.1.1 / a:=Int.ediv_le_ediv (by omega) z3
      rw[←(edvm (t:=(tfold t (T / b*(b / a)) (T / a)).1.2.1.1) ha hb1 hm).2]
      have z5:(tfold t (T / b*(b / a)) (T / a)).1.2.1.1 / a / (b / a)≤T / a / (b / a):=Int.ediv_le_ediv (by omega) (by omega)
      have z6:T / b≤(tfold t (T / b*(b / a)) (T / a)).1.2.1.1 / a / (b / a):=by rw[Int.le_ediv_iff_mul_le hp];exact z2
      omega
theorem range_fine {t:List Slo} {w T i j:Int} {cur:Cel} {ok:Prop} [Decidable ok] (hok:ok) (h:TierOk t w) (hb:T = -1∨NoBehind t (T / w)∧CellN cur∧cur.2.1.1 / w=T / w) (h0:0≤i) (hij:i≤j):(rangeV ok i j T w t (cur,0)).2=0:=by
  unfold rangeV
  rw[if_pos hok,if_neg (by omega),if_neg (by omega)]
  by_cases h1:T = -1
  · rw[if_pos h1]
  rw[if_neg h1]
  obtain ⟨hb,hc,hf⟩:=hb.resolve_left h1
  by_cases h2:T / w<i
  · rw[if_pos h2];exact tfold_none h h0 hij
  rw[if_neg h2]
  by_cases h3:j≤T / w
  · rw[if_pos h3];exact tfold_none h h0 hij
  rw[if_neg h3,if_neg (nn rfl)]
  obtain ⟨k1,k2⟩:=tfold_last (j:=j) h hb h0 (by omega:i≤T / w)
  rw[mrgE_fine k1 hc.ok (ahead_of h.w0 k2 (.inr hf))]
theorem range_past {t:List Slo} {w T i j:Int} {now:Cel×Int} {ok:Prop} [Decidable ok] (hok:ok) (h:TierOk t w) (hb:NoBehind t (T / w+1)) (h0:0≤i) (hij:i≤j) (hi:T / w<i):rangeV ok i j T w t now=(z0,0):=by
  have e:tfold t i j=(z0,0):=by
    unfold tfold
    rw[if_neg (by omega)]
    have hn:=(noBehind_iff h _).1 hb
    have:within t i j=[]:=by
      unfold within
      rw[List.filter_eq_nil_iff.2 (fun s hs=>by have:=hn s hs;simp;omega)]
      rfl
    rw[this];rfl
  unfold rangeV
  rw[if_pos hok,if_neg (by omega),if_neg (by omega),if_pos hi,e]
  split<;>rfl
structure Ends3 (c:Conf) (s:Ser):Prop where
  t0:s.2.1 = -1∨NoBehind s.2.2.2.1.1 (s.2.1 / c.2.1.1)∧CellN s.2.2.2.2.2∧s.2.2.2.2.2.2.1.1 / c.2.1.1=s.2.1 / c.2.1.1
  t1:s.2.1 = -1∨∃m,now1 c s=(m,0)∧NoBehind s.2.2.2.1.2.1 (s.2.1 / c.2.1.2.1)∧CellN m∧m.2.1.1 / c.2.1.2.1=s.2.1 / c.2.1.2.1
  t2:s.2.1 = -1∨∃m,now2 c s=(m,0)∧NoBehind s.2.2.2.1.2.2 (s.2.1 / c.2.1.2.2)∧CellN m∧m.2.1.1 / c.2.1.2.2=s.2.1 / c.2.1.2.2
theorem serOk_ends3 {c:Conf} {s:Ser} (h:SerOk c s):Ends3 c s:=by
  have hr:=h.fold.cok.rng
  by_cases hn:s.2.1 = -1
  · exact ⟨.inl hn,.inl hn,.inl hn⟩
  have ht:=serOk_at h hn
  obtain ⟨he,_⟩:=serOk_ends h hn
  have hf:s.2.2.2.2.2.2.1.1 / c.2.1.1=s.2.1 / c.2.1.1:=by
    rw[he.fit.f,←he.fit.l,he.ol]
  obtain ⟨m1,a1,a2,a3⟩:=now_up h.fold.t0 he.b0 hr.w0.1 hr.w1.1 h.fold.cok.m1 ht.1 he.fit.n hf
  obtain ⟨m2,b1,b2,b3⟩:=now_up h.fold.t1 he.b1 hr.w1.1 hr.w2.1 h.fold.cok.m2 ht.1 a2 a3
  have e1:now1 c s=(m1,0):=a1
  refine ⟨.inr ⟨he.b0,he.fit.n,hf⟩,.inr ⟨m1,e1,he.b1,a2,a3⟩,.inr ⟨m2,?_,he.b2,b2,b3⟩⟩
  unfold now2
  rw[e1,if_neg (nn rfl)]
  exact b1
noncomputable def rangeK (c:Conf) (s:Ser) (k i j:Int):Cel×Int :=
  if k=0 then rangeV (SerOk c s) i j s.2.1 c.2.1.1 s.2.2.2.1.1 (s.2.2.2.2.2,0)
  else if k=1 then rangeV (SerOk c s) i j s.2.1 c.2.1.2.1 s.2.2.2.1.2.1 (now1 c s)
  else rangeV (SerOk c s) i j s.2.1 c.2.1.2.2 s.2.2.2.1.2.2 (now2 c s)
theorem rangeK_fine {c:Conf} {s:Ser} (h:SerOk c s) (k:Int) {i j:Int} (h0:0≤i) (hij:i≤j):(rangeK c s k i j).2=0:=by
  have he:=serOk_ends3 h
  unfold rangeK
  split
  · exact range_fine h h.fold.t0 he.t0 h0 hij
  split
  · by_cases hn:s.2.1 = -1
    · unfold rangeV;rw[if_pos h,if_neg (by omega),if_neg (by omega),if_pos hn]
    · obtain ⟨m,e,k1,k2,k3⟩:=he.t1.resolve_left hn
      rw[e];exact range_fine h h.fold.t1 (.inr ⟨k1,k2,k3⟩) h0 hij
  · by_cases hn:s.2.1 = -1
    · unfold rangeV;rw[if_pos h,if_neg (by omega),if_neg (by omega),if_pos hn]
    · obtain ⟨m,e,k1,k2,k3⟩:=he.t2.resolve_left hn
      rw[e];exact range_fine h h.fold.t2 (.inr ⟨k1,k2,k3⟩) h0 hij
theorem nb_all {c:Conf} {s:Ser} (h:SerOk c s):NoBehind s.2.2.2.1.1 (s.2.1 / c.2.1.1+1)∧NoBehind s.2.2.2.1.2.1 (s.2.1 / c.2.1.2.1+1)∧NoBehind s.2.2.2.1.2.2 (s.2.1 / c.2.1.2.2+1):=by
  have hr:=h.fold.cok.rng
  rcases h.st with ⟨k1,k2⟩ | ⟨k1,k2⟩
  · rw[k1]
    have e:∀w:Int,1≤w→(-1:Int) / w = -1:=fun w hw=>Int.ediv_eq_iff_of_pos (by omega) |>.2 ⟨by omega,by omega⟩
    rw[e _ hr.w0.1,e _ hr.w1.1,e _ hr.w2.1]
    exact ⟨k2.b0,k2.b1,k2.b2⟩
  · exact ⟨nb_mono k2.b0 (by omega),nb_mono k2.b1 (by omega),nb_mono k2.b2 (by omega)⟩
theorem rangeK_past {c:Conf} {s:Ser} (h:SerOk c s) {k:Int} (hk0:0≤k) (hk2:k≤2) {i j:Int} (h0:0≤i) (hij:i≤j) (hi:s.2.1 / tierW c k<i):rangeK c s k i j=(z0,0):=by
  obtain ⟨n0,n1,n2⟩:=nb_all h
  unfold rangeK
  unfold tierW at hi
  rcases (by omega:k=0∨k=1∨k=2) with e | e | e
  · subst e;rw[if_pos rfl] at hi ⊢;exact range_past h h.fold.t0 n0 h0 hij hi
  · subst e;rw[if_neg (by decide),if_pos rfl] at hi ⊢;exact range_past h h.fold.t1 n1 h0 hij hi
  · subst e;rw[if_neg (by decide),if_neg (by decide)] at hi ⊢;exact range_past h h.fold.t2 n2 h0 hij hi
noncomputable def dueAt (s:Sta) (i:Nat):Bool:=match s.2.2.2[i]? with | some x=>deadV s.1 x.2.1 s.2.1 | none=>false
noncomputable def dueV (s:Sta):List Nat:=if StaOk s then (liveV s).filter (dueAt s) else []
def sweptS (s:Sta):Sta:=(s.1,(s.2.1,(s.2.1,s.2.2.2)))
noncomputable def cleanP (s:Sta) (x:Ser):Ser:=if LvX s x then cleanX s.1 s.2.1 x else ser0
noncomputable def cleanS (s:Sta):Sta:=(s.1,(s.2.1,(s.2.2.1,s.2.2.2.map (cleanP s))))
theorem swept_lv {s:Sta} {x:Ser} (h:StaOk s):LvX (sweptS s) x↔x≠ser0∧deadV s.1 x.2.1 s.2.1=false:=by
  have:=h.clock.1.1
  constructor
  · rintro ⟨h1,h2 | h2⟩
    · exfalso;have h2:s.2.1 = -1:=h2;omega
    · exact ⟨h1,h2⟩
  · rintro ⟨h1,h2⟩;exact ⟨h1,.inr h2⟩
theorem old_mono {a b w m:Int} (ha:OfP a w) (hb:OfP b w) (hab:a≤b) (hm:1≤m∧m≤4096):(oldV a w m).1≤(oldV b w m).1:=by
  unfold oldV
  rw[if_pos (show OfP a w∧1≤m∧m≤4096 from ⟨ha,hm.1,hm.2⟩),if_pos (show OfP b w∧1≤m∧m≤4096 from ⟨hb,hm.1,hm.2⟩)]
  have:a / w≤b / w:=Int.ediv_le_ediv (by have:=ha.2.2.1;omega) hab
  simp only
  split<;>split<;>omega
theorem gone_mono {t a b w m:Int} (ha:OfP a w) (hb:OfP b w) (hab:a≤b) (hm:1≤m∧m≤4096) (h:goneV t a w m=true):goneV t b w m=true:=by
  unfold goneV at *
  have h:=of_decide_eq_true h
  have:=old_mono ha hb hab hm
  exact decide_eq_true ⟨h.1,old_none hb hm,by omega⟩
theorem dead_mono {c:Conf} {t a b:Int} (ha:TimeP a) (hb:TimeP b) (hab:a≤b) (h:deadV c t a=true):deadV c t b=true:=by
  unfold deadV at *
  simp only[Bool.and_eq_true,decide_eq_true_eq] at h ⊢
  obtain ⟨hc,h0,h1,h2⟩:=h
  have hr:=hc.rng
  exact ⟨hc,gone_mono ⟨ha.1,ha.2,hr.w0.1,hr.w0.2⟩ ⟨hb.1,hb.2,hr.w0.1,hr.w0.2⟩ hab hr.n0 h0,gone_mono ⟨ha.1,ha.2,hr.w1.1,hr.w1.2⟩ ⟨hb.1,hb.2,hr.w1.1,hr.w1.2⟩ hab hr.n1 h1,gone_mono ⟨ha.1,ha.2,hr.w2.1,hr.w2.2⟩ ⟨hb.1,hb.2,hr.w2.1,hr.w2.2⟩ hab hr.n2 h2⟩
theorem swept_of {s:Sta} (h:StaOk s) {x:Ser} (hl:LvX (sweptS s) x):LvX s x:=by
  obtain ⟨h1,h2⟩:=(swept_lv h).1 hl
  refine ⟨h1,?_⟩
  rcases h.clock.2.1 with k | k
  · exact .inl k
  · refine .inr ?_
    cases hd:deadV s.1 x.2.1 s.2.2.1 with
    | false=>rfl
    | true=>rw[dead_mono k h.clock.1 h.clock.2.2 hd] at h2;cases h2
theorem swept_ok {s:Sta} (h:StaOk s):StaOk (sweptS s):=by
  refine ⟨h.whole,⟨h.clock.1,.inr h.clock.1,Int.le_refl _⟩,fun i x hx => ?_⟩
  rcases h.right i x hx with k | ⟨k1,k2,k3,k4⟩
  · exact .inl k
  · refine .inr ⟨k1,k2,k3,?_⟩
    rintro ⟨q1,j,q2,y,q3,q4,q5⟩
    exact k4 ⟨swept_of h q1,j,q2,y,q3,swept_of h q4,q5⟩
theorem cleanX_ne {c:Conf} {now:Int} {x:Ser} (h:SerOk c x):cleanX c now x≠ser0:=by
  intro k
  have:=h.lab.n0
  have e:x.1=[]:=congrArg Prod.fst k
  rw[e] at this;simp at this
theorem live_ok {s:Sta} (h:StaOk s) {x:Ser} (hx:x∈s.2.2.2) (hl:LvX s x):SerOk s.1 x∧0≤x.2.1:=by
  obtain ⟨i,hi,e⟩:=List.getElem_of_mem hx
  rcases h.right i x (by rw[List.getElem?_eq_getElem hi,e]) with k | k
  · exact absurd k hl.1
  · exact ⟨k.1,k.2.1⟩
theorem cleanP_lv {s:Sta} (h:StaOk s) {x:Ser} (hx:x∈s.2.2.2):LvX s (cleanP s x)↔LvX s x:=by
  unfold cleanP
  by_cases hl:LvX s x
  · rw[if_pos hl]
    exact ⟨fun _=>hl,fun _=>⟨cleanX_ne (live_ok h hx hl).1,hl.2⟩⟩
  · rw[if_neg hl]
    exact ⟨fun k=>absurd rfl k.1,fun k=>absurd k hl⟩
theorem clean_ok {s:Sta} (h:StaOk s):StaOk (cleanS s):=by
  refine ⟨⟨h.whole.1,by simpa [cleanS] using h.whole.2⟩,h.clock,fun i x hx => ?_⟩
  have hx:(s.2.2.2.map (cleanP s))[i]? = some x:=hx
  rw[List.getElem?_map] at hx
  cases hy:s.2.2.2[i]? with
  | none=>rw[hy] at hx;cases hx
  | some y =>
    rw[hy] at hx
    simp only[Option.map_some,Option.some.injEq] at hx
    by_cases hl:LvX s y
    · have e:cleanP s y=cleanX s.1 s.2.1 y:=if_pos hl
      rw[e] at hx
      have hym:=List.mem_of_getElem? hy
      rcases h.right i y hy with k | ⟨k1,k2,k3,k4⟩
      · exact absurd k hl.1
      subst hx
      refine .inr ⟨cleanX_ok k1,k2,k3,?_⟩
      rintro ⟨q1,j,q2,z,q3,q4,q5⟩
      have q3:(s.2.2.2.map (cleanP s))[j]? = some z:=q3
      rw[List.getElem?_map] at q3
      cases hw:s.2.2.2[j]? with
      | none=>rw[hw] at q3;cases q3
      | some w =>
        rw[hw] at q3
        simp only[Option.map_some,Option.some.injEq] at q3
        have hwm:=List.mem_of_getElem? hw
        have q4:LvX s z:=q4
        rw[←q3] at q4 q5
        have hlw:=(cleanP_lv h hwm).1 q4
        have e2:cleanP s w=cleanX s.1 s.2.1 w:=if_pos hlw
        rw[e2] at q5
        exact k4 ⟨hl,j,q2,w,hw,hlw,q5⟩
    · have e:cleanP s y=ser0:=if_neg hl
      rw[e] at hx
      exact .inl hx.symm
theorem lvAt_iff {s:Sta} {i:Nat}:lvAt s i=true↔∃x,s.2.2.2[i]? = some x∧LvX s x:=by
  unfold lvAt
  cases s.2.2.2[i]? with
  | none=>simp
  | some x=>simp
theorem dead_range {s:Sta} (h:StaOk s) {x:Ser} (hx:SerOk s.1 x) (hd:deadV s.1 x.2.1 s.2.1=true) {k:Int} (hk0:0≤k) (hk2:k≤2) {i j:Int} (h0:0≤i) (hij:i≤j) (hi:(oldV s.2.1 (tierW s.1 k) (tierN s.1 k)).1≤i):rangeK s.1 x k i j=(z0,0):=by
  refine rangeK_past hx hk0 hk2 h0 hij ?_
  unfold deadV at hd
  simp only[Bool.and_eq_true,decide_eq_true_eq] at hd
  obtain ⟨_,d0,d1,d2⟩:=hd
  unfold goneV at d0 d1 d2
  have d0:=(of_decide_eq_true d0).2.2;have d1:=(of_decide_eq_true d1).2.2;have d2:=(of_decide_eq_true d2).2.2
  unfold tierW tierN at hi
  unfold tierW
  rcases (by omega:k=0∨k=1∨k=2) with e | e | e
  · subst e;rw[if_pos rfl,if_pos rfl] at hi;rw[if_pos rfl];omega
  · subst e;rw[if_neg (by decide),if_pos rfl,if_neg (by decide),if_pos rfl] at hi;rw[if_neg (by decide),if_pos rfl];omega
  · subst e;rw[if_neg (by decide),if_neg (by decide),if_neg (by decide),if_neg (by decide)] at hi;rw[if_neg (by decide),if_neg (by decide)];omega
theorem tier_rng {c:Conf} (h:OkC c) (k:Int):1≤tierW c k∧tierW c k≤1099511627776∧1≤tierN c k∧tierN c k≤4096:=by
  have hr:=h.rng
  have a0:=hr.w0;have a1:=hr.w1;have a2:=hr.w2;have b0:=hr.n0;have b1:=hr.n1;have b2:=hr.n2
  unfold tierW tierN
  split
  · exact ⟨a0.1,a0.2,b0.1,b0.2⟩
  split
  · exact ⟨a1.1,a1.2,b1.1,b1.2⟩
  · exact ⟨a2.1,a2.2,b2.1,b2.2⟩
end Go.Proofs.YtjeabebacegikaaGreatDoor

namespace Go.Plim
set_option linter.unusedVariables false
def tz:Nat→Nat→Nat
  | 0,_=>0
  | k+1,x=>if x % 2=1 then 0 else tz k (x / 2)+1
theorem tz_odd (k x:Nat) (h:x % 2=1):tz k x=0:=by cases k<;>simp[tz,h]
theorem tz_spec:∀(k x:Nat),0<x→x<2^k→tz k x<k∧x=2^tz k x*(x / 2^tz k x)∧(x / 2^tz k x) % 2=1:=by
  intro k
  induction k with
  | zero=>intro x h0 h1;simp at h1;omega
  | succ k ih =>
    intro x h0 h1
    by_cases h:x % 2=1
    · rw[tz_odd (k+1) x h]
      simp[h]
    · have e:tz (k+1) x=tz k (x / 2)+1:=by simp[tz,h]
      rw[Nat.pow_succ] at h1
      obtain ⟨a1,a2,a3⟩:=ih (x / 2) (by omega) (by omega)
      rw[e,Nat.pow_succ,Nat.mul_comm (2^tz k (x / 2)) 2,←Nat.div_div_eq_div_mul]
      refine ⟨by omega,?_,a3⟩
      rw[Nat.mul_assoc,←a2]
      omega
theorem tz_unique {k x t:Nat} (h0:0<x) (h1:x<2^k) (h:x % 2^t=0) (ho:(x / 2^t) % 2=1):tz k x=t:=by
  obtain ⟨a1,a2,a3⟩:=tz_spec k x h0 h1
  have b2:x=2^t*(x / 2^t):=by have:=Nat.div_add_mod x (2^t);omega
  generalize tz k x=s at *
  generalize hy:x / 2^s=y at *
  generalize hz:x / 2^t=z at *
  have e:2^s*y=2^t*z:=by omega
  have one:∀(s t y z:Nat),2^s*y=2^t*z→y % 2=1→z % 2=1→s<t→False:=by
    intro s t y z e hy hz hlt
    obtain ⟨d,rfl⟩:∃d,t=s+(d+1):=⟨t-s-1,by omega⟩
    rw[Nat.pow_add,Nat.mul_assoc] at e
    have:=Nat.eq_of_mul_eq_mul_left (Nat.two_pow_pos s) e
    rw[this,Nat.pow_succ,Nat.mul_comm (2^d) 2,Nat.mul_assoc,Nat.mul_mod_right] at hy
    cases hy
  rcases Nat.lt_trichotomy s t with q | q | q
  · exact (one s t y z e a3 ho q).elim
  · exact q
  · exact (one t s z y e.symm ho a3 q).elim
theorem gcd_two {a b:Nat} (ha:a % 2=1) (t:Nat):Nat.gcd a (2^t*b)=Nat.gcd a b:=by
  have hc:Nat.Coprime 2 a:=by
    unfold Nat.Coprime
    rw[Nat.gcd_rec,ha]
    simp
  exact Nat.Coprime.gcd_mul_left_cancel_right b (Nat.Coprime.pow_left t hc)
theorem gcd_less {a b:Nat} (h:a≤b):Nat.gcd a (b-a)=Nat.gcd a b:=by
  have:=Nat.gcd_add_self_right (m:=a) (n:=b-a)
  rw[Nat.sub_add_cancel h] at this
  exact this.symm
theorem gcd_parts {x y s t a b:Nat} (hx:x=2^s*a) (hy:y=2^t*b) (ha:a % 2=1) (hb:b % 2=1):Nat.gcd x y=2^(min s t)*Nat.gcd a b:=by
  subst hx hy
  rcases Nat.le_total s t with h | h
  · rw[Nat.min_eq_left h]
    obtain ⟨d,rfl⟩:∃d,t=s+d:=⟨t-s,by omega⟩
    rw[Nat.pow_add,Nat.mul_assoc,Nat.gcd_mul_left,gcd_two ha]
  · rw[Nat.min_eq_right h]
    obtain ⟨d,rfl⟩:∃d,s=t+d:=⟨s-t,by omega⟩
    rw[Nat.pow_add,Nat.mul_assoc,Nat.gcd_mul_left,Nat.gcd_comm (2^d*a),gcd_two hb,Nat.gcd_comm b a]
def bl:Nat→Nat→Nat
  | 0,_=>0
  | k+1,x=>if x=0 then 0 else bl k (x / 2)+1
theorem bl_zero (k:Nat):bl k 0=0:=by cases k<;>simp[bl]
theorem bl_spec:∀(k x:Nat),x<2^k→x<2^bl k x∧(0<x→0<bl k x∧2^(bl k x-1)≤x)∧bl k x≤k:=by
  intro k
  induction k with
  | zero=>intro x h;simp[bl] at *;omega
  | succ k ih =>
    intro x h
    by_cases h0:x=0
    · subst h0;rw[bl_zero];simp
    · have e:bl (k+1) x=bl k (x / 2)+1:=by simp[bl,h0]
      rw[Nat.pow_succ] at h
      obtain ⟨a1,a2,a3⟩:=ih (x / 2) (by omega)
      rw[e]
      refine ⟨by rw[Nat.pow_succ];omega,fun _=>⟨by omega,?_⟩,by omega⟩
      rw[Nat.add_sub_cancel]
      by_cases h1:x / 2=0
      · rw[h1,bl_zero];simp;omega
      · obtain ⟨b1,b2⟩:=a2 (by omega)
        have:2^bl k (x / 2)=2^(bl k (x / 2)-1)*2:=by rw[←Nat.pow_succ];congr 1;omega
        omega
theorem bl_unique {k x b:Nat} (h:x<2^k) (h0:0<x) (h1:2^b≤x) (h2:x<2^(b+1)):bl k x=b+1:=by
  obtain ⟨a1,a2,_⟩:=bl_spec k x h
  obtain ⟨c1,c2⟩:=a2 h0
  have d1:b<bl k x:=by
    rcases Nat.lt_or_ge b (bl k x) with q | q
    · exact q
    · have:=Nat.pow_le_pow_right (show 0<2 by decide) q;omega
  have d2:bl k x-1<b+1:=by
    rcases Nat.lt_or_ge (bl k x-1) (b+1) with q | q
    · exact q
    · have:=Nat.pow_le_pow_right (show 0<2 by decide) q;omega
  omega
theorem div_step {A D L i q r:Nat} (hD:0<D) (h:A / 2^(i+1)=D*q+r) (hr:r<D) :
    (D≤2*r+A / 2^i % 2→A / 2^i=D*(2*q+1)+(2*r+A / 2^i % 2-D)∧2*r+A / 2^i % 2-D<D) ∧
    (2*r+A / 2^i % 2<D→A / 2^i=D*(2*q)+(2*r+A / 2^i % 2)):=by
  rw[Nat.pow_succ,←Nat.div_div_eq_div_mul] at h
  have h1:=Nat.div_add_mod (A / 2^i) 2
  rw[h] at h1
  have e1:2*(D*q+r)=D*(2*q)+2*r:=by rw[Nat.mul_add,Nat.mul_left_comm]
  have e2:D*(2*q+1)=D*(2*q)+D:=by rw[Nat.mul_add,Nat.mul_one]
  generalize D*(2*q)=Z at *
  constructor
  · intro k;rw[e2];omega
  · intro k;omega
end Go.Plim

namespace Go.Plim
set_option linter.unusedVariables false
def ofN (x:Nat):Wd:=(((x / 18446744073709551616:Nat):Int),((x % 18446744073709551616:Nat):Int))
theorem mkW_nat (x:Nat):mkW (x:Int)=ofN x:=by
  unfold mkW ofN;rw[Prod.mk.injEq];constructor<;>omega
theorem wv_ofN (x:Nat):wv (ofN x)=x:=by rw[←mkW_nat,wv_mkW]
theorem ofN_ok {x:Nat} (h:x<340282366920938463463374607431768211456):WdOk (ofN x):=by rw[←mkW_nat];exact mkW_ok (by omega) (by omega)
theorem ofN_zero (x:Nat):(decide ((ofN x).1=(0:Int))&&decide ((ofN x).2=(0:Int)))=decide (x=0):=by
  rw[←Bool.decide_and]
  apply decide_eq_decide.2
  unfold ofN
  simp only
  omega
def od (x:Nat):Nat:=x / 2^tz 128 x
theorem od_spec {x:Nat} (h0:0<x) (h1:x<340282366920938463463374607431768211456):tz 128 x<128∧x=2^tz 128 x*od x∧od x % 2=1 :=
  tz_spec 128 x h0 h1
theorem od_pos {x:Nat} (h0:0<x) (h1:x<340282366920938463463374607431768211456):0<od x:=by
  have:=(od_spec h0 h1).2.2
  rcases Nat.eq_zero_or_pos (od x) with q | q
  · rw[q] at this;cases this
  · exact q
theorem od_le (x:Nat):od x≤x:=Nat.div_le_self _ _
theorem od_even {x:Nat} (h0:0<x) (h1:x<340282366920938463463374607431768211456) (he:x % 2=0):2*od x≤x:=by
  obtain ⟨_,a2,a3⟩:=od_spec h0 h1
  have ht:1≤tz 128 x:=by
    rcases Nat.eq_zero_or_pos (tz 128 x) with q | q
    · rw[q] at a2;simp at a2;omega
    · exact q
  have:2^1≤2^tz 128 x:=Nat.pow_le_pow_right (by decide) ht
  have:=Nat.mul_le_mul_right (od x) this
  omega
theorem gcd_od {a x:Nat} (ha:a % 2=1) (h0:0<x) (h1:x<340282366920938463463374607431768211456):Nat.gcd a (od x)=Nat.gcd a x:=by
  obtain ⟨_,a2,_⟩:=od_spec h0 h1
  have:=gcd_two (b:=od x) ha (tz 128 x)
  rw[←a2] at this
  exact this.symm
theorem gcd_whole {x y:Nat} (hx:0<x) (hx':x<340282366920938463463374607431768211456) (hy:0<y) (hy':y<340282366920938463463374607431768211456) :
    Nat.gcd x y=Nat.gcd (od x) y*2^(min (tz 128 x) (tz 128 y)):=by
  obtain ⟨_,a2,a3⟩:=od_spec hx hx'
  obtain ⟨_,b2,b3⟩:=od_spec hy hy'
  rw[gcd_parts a2 b2 a3 b3,gcd_od a3 hy hy',Nat.mul_comm]
theorem or_pow {q k:Nat} (h:2^(k+1) ∣ q):q ||| 2^k=q+2^k:=by
  obtain ⟨m,rfl⟩:=h
  exact (Nat.two_pow_add_eq_or_of_lt (i:=k+1) (b:=2^k) (by rw[Nat.pow_succ];have:=Nat.two_pow_pos k;omega) m).symm
theorem div_part {a d k q:Nat} (hd:0<d) (h:d*2^k≤a):q+2^k+(a-d*2^k) / d=q+a / d:=by
  have e:a=(a-d*2^k)+d*2^k:=by omega
  have:a / d=(a-d*2^k) / d+2^k:=by
    conv=>lhs;rw[e]
    rw[Nat.add_mul_div_left _ _ hd]
  omega
theorem half_up {x k:Nat} (hk:k<64) (h:x*2^k<340282366920938463463374607431768211456) :
    x / 18446744073709551616*2^k+x % 18446744073709551616 / 2^(64-k)=x*2^k / 18446744073709551616∧x % 18446744073709551616 / 2^(64-k)<2^k ∧
    x % 18446744073709551616*2^k % 18446744073709551616=x*2^k % 18446744073709551616:=by
  have e:18446744073709551616=2^(64-k)*2^k:=by rw[←Nat.pow_add,show 64-k+k=64 by omega]
  have hp:=Nat.two_pow_pos k
  have hq:=Nat.two_pow_pos (64-k)
  have h0:=Nat.div_add_mod x 18446744073709551616
  have h1:=Nat.mod_lt x (show 0<18446744073709551616 by decide)
  generalize x / 18446744073709551616=H at *
  generalize x % 18446744073709551616=L at *
  subst h0
  have e1:(18446744073709551616*H+L)*2^k=L*2^k+18446744073709551616*(H*2^k):=by rw[Nat.add_mul,Nat.mul_assoc];omega
  have e2:L*2^k / 18446744073709551616=L / 2^(64-k):=by
    conv=>lhs;rw[e]
    exact Nat.mul_div_mul_right _ _ hp
  refine ⟨?_,?_,?_⟩
  · rw[e1,Nat.add_mul_div_left _ _ (by decide),e2];omega
  · exact Nat.div_lt_of_lt_mul (by rw[←e];exact h1)
  · rw[e1,Nat.add_mul_mod_self_left]
theorem half_down {x k:Nat} (hk:k<64) (h:x<340282366920938463463374607431768211456) :
    x / 18446744073709551616 / 2^k=x / 2^k / 18446744073709551616 ∧
    x % 18446744073709551616 / 2^k+x / 18446744073709551616*2^(64-k) % 18446744073709551616=x / 2^k % 18446744073709551616∧x % 18446744073709551616 / 2^k<2^(64-k) ∧
    ∃m,x / 18446744073709551616*2^(64-k) % 18446744073709551616=2^(64-k)*m:=by
  have e:18446744073709551616=2^k*2^(64-k):=by rw[←Nat.pow_add,show k+(64-k)=64 by omega]
  have hp:=Nat.two_pow_pos k
  have hq:=Nat.two_pow_pos (64-k)
  have c1:x / 18446744073709551616 / 2^k=x / 2^k / 18446744073709551616:=by rw[Nat.div_div_eq_div_mul,Nat.div_div_eq_div_mul,Nat.mul_comm]
  have h0:=Nat.div_add_mod x 18446744073709551616
  have h1:=Nat.mod_lt x (show 0<18446744073709551616 by decide)
  have hm0:∀H:Nat,H*2^(64-k) % 18446744073709551616=2^(64-k)*(H % 2^k):=by
    intro H
    conv=>lhs;rw[e]
    rw[Nat.mul_mod_mul_right,Nat.mul_comm]
  have hm:=hm0 (x / 18446744073709551616)
  have c3:x % 18446744073709551616 / 2^k<2^(64-k):=Nat.div_lt_of_lt_mul (by rw[←e];exact h1)
  refine ⟨c1,?_,c3,_,hm⟩
  rw[hm]
  generalize x / 18446744073709551616=H at *
  generalize x % 18446744073709551616=L at *
  subst h0
  have e1:(18446744073709551616*H+L) / 2^k=L / 2^k+2^(64-k)*H:=by
    conv=>lhs;rw[e]
    rw[Nat.mul_assoc,Nat.add_comm,Nat.add_mul_div_left _ _ hp]
  have h2:=Nat.div_add_mod H (2^k)
  have e2:2^(64-k)*H=18446744073709551616*(H / 2^k)+2^(64-k)*(H % 2^k):=by
    conv=>lhs;rw[←h2]
    rw[Nat.mul_add,←Nat.mul_assoc,Nat.mul_comm (2^(64-k)),←e]
  rw[e1,e2]
  have hlt:L / 2^k+2^(64-k)*(H % 2^k)<18446744073709551616:=by
    have h3:=Nat.mod_lt H hp
    have h4:2^(64-k)*(H % 2^k+1)≤2^(64-k)*2^k:=Nat.mul_le_mul_left _ h3
    rw[Nat.mul_comm (2^(64-k)) (2^k),←e,Nat.mul_add,Nat.mul_one] at h4
    omega
  omega
end Go.Plim

namespace Go.Plim
set_option linter.unusedVariables false
theorem compl_and:∀(k a b:Nat),a+b+1=2^k→a &&& b=0:=by
  intro k
  induction k with
  | zero => intro a b h; have : a = 0 := by simp at h; omega
            rw[this];simp
  | succ k ih =>
    intro a b h
    rw[Nat.pow_succ] at h
    have h1:(a &&& b) % 2≠1:=by rw[ne_eq,Nat.and_mod_two_eq_one];omega
    have h2:(a &&& b) / 2=0:=by rw[Nat.and_div_two];exact ih _ _ (by omega)
    omega
theorem low_bit {x:Nat} (h0:0<x) (h:x<18446744073709551616):x &&& (18446744073709551616-x)=2^tz 64 x:=by
  obtain ⟨a1,a2,a3⟩:=tz_spec 64 x h0 h
  generalize hs:tz 64 x=s at *
  generalize x / 2^s=o at *
  have e:18446744073709551616=2^s*2^(64-s):=by rw[←Nat.pow_add,show s+(64-s)=64 by omega]
  have hp:=Nat.two_pow_pos s
  have e1:18446744073709551616-x=2^s*(2^(64-s)-o):=by rw[Nat.mul_sub,←e,←a2]
  have ho:o<2^(64-s):=by
    rcases Nat.lt_or_ge o (2^(64-s)) with q | q
    · exact q
    · have:=Nat.mul_le_mul_left (2^s) q;rw[←e,←a2] at this;omega
  obtain ⟨c,hc⟩:∃c,2^(64-s)=2*2^c:=⟨63-s,by rw[show 64-s=(63-s)+1 by omega,Nat.pow_succ,Nat.mul_comm]⟩
  have e2:o &&& (2^(64-s)-o)=1:=by
    have h1:(o &&& (2^(64-s)-o)) % 2=1:=by rw[Nat.and_mod_two_eq_one];omega
    have h2:(o &&& (2^(64-s)-o)) / 2=0:=by rw[Nat.and_div_two];exact compl_and c _ _ (by omega)
    omega
  rw[e1]
  conv=>lhs;rw[a2]
  rw[Nat.mul_comm (2^s) o,Nat.mul_comm (2^s),←Nat.shiftLeft_eq,←Nat.shiftLeft_eq,←Nat.shiftLeft_and_distrib,e2,Nat.shiftLeft_eq,Nat.one_mul]
theorem tz_lo {x:Nat} (h:x<340282366920938463463374607431768211456) (h0:0<x % 18446744073709551616):tz 128 x=tz 64 (x % 18446744073709551616):=by
  obtain ⟨a1,a2,a3⟩:=tz_spec 64 _ h0 (Nat.mod_lt x (by decide))
  generalize tz 64 (x % 18446744073709551616)=s at *
  have e:18446744073709551616=2^s*(2*2^(63-s)):=by rw[←Nat.pow_succ',←Nat.pow_add,show s+(63-s).succ=64 by omega]
  have hp:=Nat.two_pow_pos s
  have h2:=Nat.div_add_mod x 18446744073709551616
  generalize x % 18446744073709551616=L at *
  generalize x / 18446744073709551616=H at *
  generalize L / 2^s=o at *
  have e1:x=2^s*(2*(2^(63-s)*H)+o):=by
    rw[Nat.mul_add,←a2,←Nat.mul_assoc 2,←Nat.mul_assoc (2^s),←e];omega
  refine tz_unique (by omega) h ?_ ?_
  · rw[e1,Nat.mul_mod_right]
  · rw[e1,Nat.mul_div_cancel_left _ hp];omega
theorem tz_hi {x:Nat} (h:x<340282366920938463463374607431768211456) (h0:x % 18446744073709551616=0) (hx:0<x):tz 128 x=64+tz 64 (x / 18446744073709551616):=by
  have hH:0<x / 18446744073709551616:=by omega
  obtain ⟨a1,a2,a3⟩:=tz_spec 64 _ hH (by omega)
  generalize tz 64 (x / 18446744073709551616)=s at *
  have h2:=Nat.div_add_mod x 18446744073709551616
  generalize x / 18446744073709551616=H at *
  generalize H / 2^s=o at *
  have hp:=Nat.two_pow_pos (64+s)
  have e1:x=2^(64+s)*o:=by
    rw[Nat.pow_add,Nat.mul_assoc,←a2];omega
  refine tz_unique hx h ?_ ?_
  · rw[e1,Nat.mul_mod_right]
  · rw[e1,Nat.mul_div_cancel_left _ hp];exact a3
theorem bl_shift {k x s:Nat} (h:x<2^k) (hs:2^s≤x):bl k x=s+bl k (x / 2^s):=by
  have hp:=Nat.two_pow_pos s
  have h0:0<x / 2^s:=Nat.div_pos hs hp
  have h1:x / 2^s<2^k:=Nat.lt_of_le_of_lt (Nat.div_le_self _ _) h
  obtain ⟨a1,a2,a3⟩:=bl_spec k (x / 2^s) h1
  obtain ⟨b1,b2⟩:=a2 h0
  obtain ⟨c,hc⟩:∃c,bl k (x / 2^s)=c+1:=⟨bl k (x / 2^s)-1,by omega⟩
  rw[hc] at a1 b2 ⊢
  rw[Nat.add_sub_cancel] at b2
  rw[←Nat.add_assoc]
  refine bl_unique h (by omega) ?_ ?_
  · rw[Nat.pow_add,Nat.mul_comm]
    exact (Nat.le_div_iff_mul_le hp).1 b2
  · rw[Nat.add_assoc,Nat.pow_add,Nat.mul_comm]
    exact (Nat.div_lt_iff_lt_mul hp).1 a1
theorem bl_wider {k m x:Nat} (h:x<2^k) (h':x<2^m):bl k x=bl m x:=by
  rcases Nat.eq_zero_or_pos x with q | q
  · subst q;rw[bl_zero,bl_zero]
  · obtain ⟨a1,a2,_⟩:=bl_spec m x h'
    obtain ⟨b1,b2⟩:=a2 q
    obtain ⟨c,hc⟩:∃c,bl m x=c+1:=⟨bl m x-1,by omega⟩
    rw[hc] at a1 b2 ⊢
    rw[Nat.add_sub_cancel] at b2
    exact bl_unique h q b2 a1
theorem bl_up {a d k:Nat} (ha:a<2^128) (hd:d<2^128) (hk:bl 128 d+k≤bl 128 a) (h0:0<a):d*2^k<2^128:=by
  obtain ⟨a1,a2,a3⟩:=bl_spec 128 a ha
  obtain ⟨d1,d2,d3⟩:=bl_spec 128 d hd
  have h1:d*2^k<2^bl 128 d*2^k:=Nat.mul_lt_mul_of_pos_right d1 (Nat.two_pow_pos k)
  rw[←Nat.pow_add] at h1
  exact Nat.lt_of_lt_of_le h1 (Nat.pow_le_pow_right (by decide) (by omega))
theorem bl_over {a d:Nat} (ha:a<2^128) (hd:d<2^128) (h0:0<d):a<d*2^(bl 128 a-bl 128 d+1):=by
  obtain ⟨a1,a2,a3⟩:=bl_spec 128 a ha
  obtain ⟨d1,d2,d3⟩:=bl_spec 128 d hd
  obtain ⟨b1,b2⟩:=d2 h0
  have h1:2^(bl 128 d-1)*2^(bl 128 a-bl 128 d+1)≤d*2^(bl 128 a-bl 128 d+1):=Nat.mul_le_mul_right _ b2
  rw[←Nat.pow_add] at h1
  have h2:2^bl 128 a≤2^(bl 128 d-1+(bl 128 a-bl 128 d+1)):=Nat.pow_le_pow_right (by decide) (by omega)
  omega
theorem bl_less {a d:Nat} (ha:a<2^128) (hd:d<2^128) (h:bl 128 a<bl 128 d):a<d:=by
  obtain ⟨a1,a2,a3⟩:=bl_spec 128 a ha
  obtain ⟨d1,d2,d3⟩:=bl_spec 128 d hd
  rcases Nat.eq_zero_or_pos d with q | q
  · subst q;rw[bl_zero] at h;omega
  · obtain ⟨b1,b2⟩:=d2 q
    have:2^bl 128 a≤2^(bl 128 d-1):=Nat.pow_le_pow_right (by decide) (by omega)
    omega
def byt (v j:Nat):Nat:=v / 256^j % 256
theorem byt_or {v i:Nat} (h:2^(i+1) ∣ v) (j:Nat):byt (v+2^i) j=if i / 8=j then byt v j ||| 2^(i % 8) else byt v j:=by
  unfold byt
  have e:(256:Nat)^j=2^(8*j):=by rw[Nat.pow_mul]
  rw[←or_pow h,e,Nat.or_div_two_pow,show (256:Nat)=2^8 from rfl,Nat.or_mod_two_pow]
  have e2:2^i / 2^(8*j) % 2^8=if i / 8=j then 2^(i % 8) else 0:=by
    rcases Nat.lt_or_ge i (8*j) with q | q
    · rw[Nat.div_eq_of_lt (Nat.pow_lt_pow_right (by decide) q),if_neg (by omega)]
    · rw[Nat.pow_div q (by decide)]
      split
      · rw[show i-8*j=i % 8 by omega]
        exact Nat.mod_eq_of_lt (Nat.pow_lt_pow_right (by decide) (Nat.mod_lt _ (by decide)))
      · obtain ⟨c,hc⟩:∃c,i-8*j=8+c:=⟨i-8*j-8,by omega⟩
        rw[hc,Nat.pow_add,Nat.mul_mod_right]
  rw[e2]
  split
  · rfl
  · rw[Nat.or_zero]
theorem byt_lt (v j:Nat):byt v j<256:=Nat.mod_lt _ (by decide)
theorem bit_byt (v i:Nat):byt v (i / 8) / 2^(i % 8) % 2=v / 2^i % 2:=by
  unfold byt
  have e:(256:Nat)^(i / 8)=2^(8*(i / 8)):=by rw[Nat.pow_mul]
  obtain ⟨c,hc⟩:∃c,(256:Nat)=2^(i % 8)*(2*2^c):=⟨7-i % 8,by rw[←Nat.pow_succ',←Nat.pow_add,show i % 8+(7-i % 8).succ=8 by have:=Nat.mod_lt i (show 0<8 by decide);omega]⟩
  rw[e]
  generalize hw:v / 2^(8*(i / 8))=w
  have e1:v / 2^i=w / 2^(i % 8):=by
    rw[←hw,Nat.div_div_eq_div_mul,←Nat.pow_add,show 8*(i / 8)+i % 8=i by omega]
  rw[e1]
  conv=>lhs;rw[hc]
  rw[Nat.mod_mul_right_div_self,Nat.mod_mul_right_mod]
end Go.Plim

namespace Go.Proofs.YtjeabebacegikaaGreatDoor
open Go.Flat Go.Plim
set_option linter.unusedVariables false
set_option linter.unusedSimpArgs false
theorem wrapN (x:Nat):IntKind.wrap .u64 (x:Int)=((x % 18446744073709551616:Nat):Int):=by
  rw[IntKind.wrap_u64];omega
theorem shlN (x k:Nat) (hk:k≤64):shlI .u64 (x:Int) (k:Int)=((x*2^k % 18446744073709551616:Nat):Int):=by
  show IntKind.wrap .u64 ((x:Int)*2^(min (k:Int).toNat 64))=_
  rw[show min (k:Int).toNat 64=k by omega,←wrapN]
  congr 1
theorem shrN (x k:Nat) (hk:k≤64):shrI .u64 (x:Int) (k:Int)=((x / 2^k:Nat):Int):=by
  rw[shr_nat _ _ hk];simp
theorem orN {x y:Nat} (hx:x<18446744073709551616) (hy:y<18446744073709551616):orI .u64 (x:Int) (y:Int)=((x ||| y:Nat):Int):=by
  unfold orI
  have e2:(BitVec.ofInt IntKind.u64.bits (x:Int) ||| BitVec.ofInt IntKind.u64.bits (y:Int)).toNat=x ||| y:=by
    show (BitVec.ofInt 64 (x:Int) ||| BitVec.ofInt 64 (y:Int)).toNat=_
    rw[BitVec.toNat_or,BitVec.ofInt_natCast,BitVec.ofInt_natCast,BitVec.toNat_ofNat,BitVec.toNat_ofNat,Nat.mod_eq_of_lt (by omega),Nat.mod_eq_of_lt (by omega)]
  rw[e2]
  have:x ||| y<2^64:=Nat.or_lt_two_pow (by omega) (by omega)
  exact wu64 (by omega) (by omega)
theorem andN {x y:Nat} (hx:x<18446744073709551616) (hy:y<18446744073709551616):andI .u64 (x:Int) (y:Int)=((x &&& y:Nat):Int):=by
  unfold andI
  have e2:(BitVec.ofInt IntKind.u64.bits (x:Int) &&& BitVec.ofInt IntKind.u64.bits (y:Int)).toNat=x &&& y:=by
    show (BitVec.ofInt 64 (x:Int) &&& BitVec.ofInt 64 (y:Int)).toNat=_
    rw[BitVec.toNat_and,BitVec.ofInt_natCast,BitVec.ofInt_natCast,BitVec.toNat_ofNat,BitVec.toNat_ofNat,Nat.mod_eq_of_lt (by omega),Nat.mod_eq_of_lt (by omega)]
  rw[e2]
  have:x &&& y≤x:=Nat.and_le_left
  exact wu64 (by omega) (by omega)
theorem or_parts {H L k:Nat} (h:L<2^k):H*2^k ||| L=H*2^k+L:=by
  rw[Nat.mul_comm]
  exact (Nat.two_pow_add_eq_or_of_lt h H).symm
end Go.Proofs.YtjeabebacegikaaGreatDoor
namespace Go.Proofs.YtjeabebacegikaaGreatDoor
open Go.Flat Go.Plim
set_option linter.unusedVariables false
def lenT:List UInt8 :=
  ((((0:UInt8)::((1:UInt8)::((2:UInt8)::((2:UInt8)::((3:UInt8)::((3:UInt8)::((3:UInt8)::((3:UInt8)::((4:UInt8)::((4:UInt8)::((4:UInt8)::((4:UInt8)::((4:UInt8)::((4:UInt8)::((4:UInt8)::((4:UInt8)::((5:UInt8)::((5:UInt8)::((5:UInt8)::((5:UInt8)::((5:UInt8)::((5:UInt8)::((5:UInt8)::((5:UInt8)::((5:UInt8)::((5:UInt8)::((5:UInt8)::((5:UInt8)::((5:UInt8)::((5:UInt8)::((5:UInt8)::((5:UInt8)::((6:UInt8)::((6:UInt8)::((6:UInt8)::((6:UInt8)::((6:UInt8)::((6:UInt8)::((6:UInt8)::((6:UInt8)::((6:UInt8)::((6:UInt8)::((6:UInt8)::((6:UInt8)::((6:UInt8)::((6:UInt8)::((6:UInt8)::((6:UInt8)::((6:UInt8)::((6:UInt8)::((6:UInt8)::((6:UInt8)::((6:UInt8)::((6:UInt8)::((6:UInt8)::((6:UInt8)::((6:UInt8)::((6:UInt8)::((6:UInt8)::((6:UInt8)::((6:UInt8)::((6:UInt8)::((6:UInt8)::((6:UInt8)::[]))))))))))))))))))))))))))))))))))))))))))))))))))))))))))))))))++((7:UInt8)::((7:UInt8)::((7:UInt8)::((7:UInt8)::((7:UInt8)::((7:UInt8)::((7:UInt8)::((7:UInt8)::((7:UInt8)::((7:UInt8)::((7:UInt8)::((7:UInt8)::((7:UInt8)::((7:UInt8)::((7:UInt8)::((7:UInt8)::((7:UInt8)::((7:UInt8)::((7:UInt8)::((7:UInt8)::((7:UInt8)::((7:UInt8)::((7:UInt8)::((7:UInt8)::((7:UInt8)::((7:UInt8)::((7:UInt8)::((7:UInt8)::((7:UInt8)::((7:UInt8)::((7:UInt8)::((7:UInt8)::((7:UInt8)::((7:UInt8)::((7:UInt8)::((7:UInt8)::((7:UInt8)::((7:UInt8)::((7:UInt8)::((7:UInt8)::((7:UInt8)::((7:UInt8)::((7:UInt8)::((7:UInt8)::((7:UInt8)::((7:UInt8)::((7:UInt8)::((7:UInt8)::((7:UInt8)::((7:UInt8)::((7:UInt8)::((7:UInt8)::((7:UInt8)::((7:UInt8)::((7:UInt8)::((7:UInt8)::((7:UInt8)::((7:UInt8)::((7:UInt8)::((7:UInt8)::((7:UInt8)::((7:UInt8)::((7:UInt8)::((7:UInt8)::[])))))))))))))))))))))))))))))))))))))))))))))))))))))))))))))))))++(((8:UInt8)::((8:UInt8)::((8:UInt8)::((8:UInt8)::((8:UInt8)::((8:UInt8)::((8:UInt8)::((8:UInt8)::((8:UInt8)::((8:UInt8)::((8:UInt8)::((8:UInt8)::((8:UInt8)::((8:UInt8)::((8:UInt8)::((8:UInt8)::((8:UInt8)::((8:UInt8)::((8:UInt8)::((8:UInt8)::((8:UInt8)::((8:UInt8)::((8:UInt8)::((8:UInt8)::((8:UInt8)::((8:UInt8)::((8:UInt8)::((8:UInt8)::((8:UInt8)::((8:UInt8)::((8:UInt8)::((8:UInt8)::((8:UInt8)::((8:UInt8)::((8:UInt8)::((8:UInt8)::((8:UInt8)::((8:UInt8)::((8:UInt8)::((8:UInt8)::((8:UInt8)::((8:UInt8)::((8:UInt8)::((8:UInt8)::((8:UInt8)::((8:UInt8)::((8:UInt8)::((8:UInt8)::((8:UInt8)::((8:UInt8)::((8:UInt8)::((8:UInt8)::((8:UInt8)::((8:UInt8)::((8:UInt8)::((8:UInt8)::((8:UInt8)::((8:UInt8)::((8:UInt8)::((8:UInt8)::((8:UInt8)::((8:UInt8)::((8:UInt8)::((8:UInt8)::[]))))))))))))))))))))))))))))))))))))))))))))))))))))))))))))))))++((8:UInt8)::((8:UInt8)::((8:UInt8)::((8:UInt8)::((8:UInt8)::((8:UInt8)::((8:UInt8)::((8:UInt8)::((8:UInt8)::((8:UInt8)::((8:UInt8)::((8:UInt8)::((8:UInt8)::((8:UInt8)::((8:UInt8)::((8:UInt8)::((8:UInt8)::((8:UInt8)::((8:UInt8)::((8:UInt8)::((8:UInt8)::((8:UInt8)::((8:UInt8)::((8:UInt8)::((8:UInt8)::((8:UInt8)::((8:UInt8)::((8:UInt8)::((8:UInt8)::((8:UInt8)::((8:UInt8)::((8:UInt8)::((8:UInt8)::((8:UInt8)::((8:UInt8)::((8:UInt8)::((8:UInt8)::((8:UInt8)::((8:UInt8)::((8:UInt8)::((8:UInt8)::((8:UInt8)::((8:UInt8)::((8:UInt8)::((8:UInt8)::((8:UInt8)::((8:UInt8)::((8:UInt8)::((8:UInt8)::((8:UInt8)::((8:UInt8)::((8:UInt8)::((8:UInt8)::((8:UInt8)::((8:UInt8)::((8:UInt8)::((8:UInt8)::((8:UInt8)::((8:UInt8)::((8:UInt8)::((8:UInt8)::((8:UInt8)::((8:UInt8)::((8:UInt8)::[]))))))))))))))))))))))))))))))))))))))))))))))))))))))))))))))))))
theorem len64_tree (n:Nat) (x:Int):math_bits_Len64 (n+1) x =
  tif ((decide ((4294967296:Int)≤x))) (
  tif ((decide ((65536:Int)≤(shrI .u64 x (32:Int))))) (
  tif ((decide ((256:Int)≤(shrI .u64 (shrI .u64 x (32:Int)) (16:Int))))) (
  obind (at? lenT (IntKind.wrap .u8 (shrI .u64 (shrI .u64 (shrI .u64 x (32:Int)) (16:Int)) (8:Int)))) fun r0 =>
  some (IntKind.wrap .i64 ((56:Int)+(IntKind.wrap .i64 (((UInt8.toNat r0):Nat):Int))))) (
  obind (at? lenT (IntKind.wrap .u8 (shrI .u64 (shrI .u64 x (32:Int)) (16:Int)))) fun r1 =>
  some (IntKind.wrap .i64 ((48:Int)+(IntKind.wrap .i64 (((UInt8.toNat r1):Nat):Int)))))) (
  tif ((decide ((256:Int)≤(shrI .u64 x (32:Int))))) (
  obind (at? lenT (IntKind.wrap .u8 (shrI .u64 (shrI .u64 x (32:Int)) (8:Int)))) fun r2 =>
  some (IntKind.wrap .i64 ((40:Int)+(IntKind.wrap .i64 (((UInt8.toNat r2):Nat):Int))))) (
  obind (at? lenT (IntKind.wrap .u8 (shrI .u64 x (32:Int)))) fun r3 =>
  some (IntKind.wrap .i64 ((32:Int)+(IntKind.wrap .i64 (((UInt8.toNat r3):Nat):Int))))))) (
  tif ((decide ((65536:Int)≤x))) (
  tif ((decide ((256:Int)≤(shrI .u64 x (16:Int))))) (
  obind (at? lenT (IntKind.wrap .u8 (shrI .u64 (shrI .u64 x (16:Int)) (8:Int)))) fun r4 =>
  some (IntKind.wrap .i64 ((24:Int)+(IntKind.wrap .i64 (((UInt8.toNat r4):Nat):Int))))) (
  obind (at? lenT (IntKind.wrap .u8 (shrI .u64 x (16:Int)))) fun r5 =>
  some (IntKind.wrap .i64 ((16:Int)+(IntKind.wrap .i64 (((UInt8.toNat r5):Nat):Int)))))) (
  tif ((decide ((256:Int)≤x))) (
  obind (at? lenT (IntKind.wrap .u8 (shrI .u64 x (8:Int)))) fun r6 =>
  some (IntKind.wrap .i64 ((8:Int)+(IntKind.wrap .i64 (((UInt8.toNat r6):Nat):Int))))) (
  obind (at? lenT (IntKind.wrap .u8 x)) fun r7 =>
  some (IntKind.wrap .i64 ((0:Int)+(IntKind.wrap .i64 (((UInt8.toNat r7):Nat):Int))))))):=math_bits_Len64_eq n x
theorem lenT_all:((List.range 256).all fun z=>match lenT[z]? with | some r=>decide (r.toNat=bl 64 z) | none=>false)=true:=by decide +kernel
end Go.Proofs.YtjeabebacegikaaGreatDoor
namespace Go.Proofs.YtjeabebacegikaaGreatDoor
open Go.Flat Go.Plim
set_option linter.unusedVariables false
set_option linter.unusedSimpArgs false
theorem ratio_none_val (n x:Nat):ratio_none (n+1) (ofN x)=some (decide (x=0)):=by
  rw[ratio_none_eq,ofN_zero]
theorem up_small {x k:Nat} (hk:k≤128) (h:x*2^k<340282366920938463463374607431768211456):x<2^(128-k):=by
  have e:340282366920938463463374607431768211456=2^(128-k)*2^k:=by rw[←Nat.pow_add,show 128-k+k=128 by omega]
  rw[e] at h
  exact Nat.lt_of_mul_lt_mul_right h
theorem ratio_up_val (n x k:Nat) (hk:k<128) (h:x*2^k<340282366920938463463374607431768211456):ratio_up (n+1) (ofN x) (k:Int)=some (ofN (x*2^k)):=by
  rw[ratio_up_eq]
  simp only[tfd]
  by_cases c:64≤k
  · have e:(k:Int)-64=((k-64:Nat):Int):=by omega
    have hx:x<18446744073709551616:=Nat.lt_of_lt_of_le (up_small (by omega) h) (show 2^(128-k)≤2^64 from Nat.pow_le_pow_right (by decide) (by omega))
    have e2:x*2^k=18446744073709551616*(x*2^(k-64)):=by
      rw[show (18446744073709551616:Nat)=2^64 from rfl,Nat.mul_left_comm,←Nat.pow_add,show 64+(k-64)=k by omega]
    rw[if_pos (by omega),w64 (by omega) (by omega),if_neg (by omega),e]
    show some (shlI .u64 ((x % 18446744073709551616:Nat):Int) _,_)=some (((x*2^k / 18446744073709551616:Nat):Int),((x*2^k % 18446744073709551616:Nat):Int))
    rw[shlN _ _ (by omega),Nat.mod_eq_of_lt hx,e2,Nat.mul_div_cancel_left _ (by decide),Nat.mul_mod_right]
    rw[e2] at h
    have:x*2^(k-64)<18446744073709551616:=Nat.lt_of_mul_lt_mul_left (show 18446744073709551616*(x*2^(k-64))<18446744073709551616*18446744073709551616 from h)
    rw[Nat.mod_eq_of_lt this];rfl
  · have e:(64:Int)-k=((64-k:Nat):Int):=by omega
    obtain ⟨a1,a2,a3⟩:=half_up (show k<64 by omega) h
    rw[if_neg (by omega),if_neg (by omega),w64 (by omega) (by omega),if_neg (by omega),if_neg (by omega),e]
    show some (orI .u64 (shlI .u64 ((x / 18446744073709551616:Nat):Int) _) (shrI .u64 ((x % 18446744073709551616:Nat):Int) _),shlI .u64 ((x % 18446744073709551616:Nat):Int) _)=some (((x*2^k / 18446744073709551616:Nat):Int),((x*2^k % 18446744073709551616:Nat):Int))
    have hq:x*2^k / 18446744073709551616<18446744073709551616:=Nat.div_lt_of_lt_mul h
    have h1:x / 18446744073709551616*2^k<18446744073709551616:=Nat.lt_of_le_of_lt (by rw[←a1];exact Nat.le_add_right _ _) hq
    have h2:x % 18446744073709551616 / 2^(64-k)<18446744073709551616:=Nat.lt_of_le_of_lt (Nat.div_le_self _ _) (Nat.mod_lt _ (by decide))
    rw[shlN _ _ (by omega),shrN _ _ (by omega),shlN _ _ (by omega),Nat.mod_eq_of_lt h1,orN h1 h2,or_parts a2,a1,a3]
theorem ratio_down_val (n x k:Nat) (hk:k<128) (h:x<340282366920938463463374607431768211456):ratio_down (n+1) (ofN x) (k:Int)=some (ofN (x / 2^k)):=by
  rw[ratio_down_eq]
  simp only[tfd]
  have hq:x / 18446744073709551616<18446744073709551616:=Nat.div_lt_of_lt_mul h
  by_cases c:64≤k
  · have e:(k:Int)-64=((k-64:Nat):Int):=by omega
    rw[if_pos (by omega),w64 (by omega) (by omega),if_neg (by omega),e]
    show some (_,shrI .u64 ((x / 18446744073709551616:Nat):Int) _)=some (((x / 2^k / 18446744073709551616:Nat):Int),((x / 2^k % 18446744073709551616:Nat):Int))
    have e2:x / 2^k=x / 18446744073709551616 / 2^(k-64):=by
      rw[Nat.div_div_eq_div_mul,show (18446744073709551616:Nat)=2^64 from rfl,←Nat.pow_add,show 64+(k-64)=k by omega]
    have hlt:x / 18446744073709551616 / 2^(k-64)<18446744073709551616:=Nat.lt_of_le_of_lt (Nat.div_le_self _ _) hq
    rw[shrN _ _ (by omega),e2,Nat.div_eq_of_lt hlt,Nat.mod_eq_of_lt hlt];rfl
  · have e:(64:Int)-k=((64-k:Nat):Int):=by omega
    obtain ⟨a1,a2,a3,m,a4⟩:=half_down (show k<64 by omega) h
    rw[if_neg (by omega),if_neg (by omega),if_neg (by omega),w64 (by omega) (by omega),if_neg (by omega),e]
    show some (shrI .u64 ((x / 18446744073709551616:Nat):Int) _,orI .u64 (shrI .u64 ((x % 18446744073709551616:Nat):Int) _) (shlI .u64 ((x / 18446744073709551616:Nat):Int) _))=some (((x / 2^k / 18446744073709551616:Nat):Int),((x / 2^k % 18446744073709551616:Nat):Int))
    have h3:x % 18446744073709551616 / 2^k<18446744073709551616:=Nat.lt_of_le_of_lt (Nat.div_le_self _ _) (Nat.mod_lt _ (by decide))
    have h4:x / 18446744073709551616*2^(64-k) % 18446744073709551616<18446744073709551616:=Nat.mod_lt _ (by decide)
    rw[shrN _ _ (by omega),shrN _ _ (by omega),shlN _ _ (by omega),orN h3 h4,Nat.or_comm]
    have a4':x / 18446744073709551616*2^(64-k) % 18446744073709551616=m*2^(64-k):=by rw[Nat.mul_comm m];exact a4
    rw[a4',or_parts a3,←a4',Nat.add_comm]
    rw[show x % 18446744073709551616 / 2^k+x / 18446744073709551616*2^(64-k) % 18446744073709551616=x / 2^k % 18446744073709551616 from a2,show x / 18446744073709551616 / 2^k=x / 2^k / 18446744073709551616 from a1]
theorem wide_sub (n:Nat) {x y:Nat} (hx:x<340282366920938463463374607431768211456) (h:y≤x):wide_Sub (n+2) (ofN x) (ofN y)=some (ofN (x-y),0):=by
  rw[wide_Sub_eq]
  have h1:x / 18446744073709551616<18446744073709551616:=Nat.div_lt_of_lt_mul hx
  have h2:y / 18446744073709551616<18446744073709551616:=Nat.div_lt_of_lt_mul (Nat.lt_of_le_of_lt h hx)
  have h3:x % 18446744073709551616<18446744073709551616:=Nat.mod_lt _ (by decide)
  have h4:y % 18446744073709551616<18446744073709551616:=Nat.mod_lt _ (by decide)
  have e:∀z:Nat,ofN z=(((z / 18446744073709551616:Nat):Int),((z % 18446744073709551616:Nat):Int)):=fun _=>rfl
  rw[e x,e y,e (x-y)]
  have ex:=Nat.div_add_mod x 18446744073709551616
  have ey:=Nat.div_add_mod y 18446744073709551616
  have ez:=Nat.div_add_mod (x-y) 18446744073709551616
  have h5:(x-y) % 18446744073709551616<18446744073709551616:=Nat.mod_lt _ (by decide)
  generalize x / 18446744073709551616=a at *
  generalize x % 18446744073709551616=b at *
  generalize y / 18446744073709551616=c at *
  generalize y % 18446744073709551616=d at *
  generalize (x-y) / 18446744073709551616=p at *
  generalize (x-y) % 18446744073709551616=q at *
  simp only[tif_and,tfd,tft]
  by_cases hb:b<d
  · have hb':(b:Int)<(d:Int)+0:=by omega
    rw[if_pos (by omega),if_pos (by omega),if_pos (by omega),if_pos (by omega),if_pos (by omega),if_pos (by omega),if_pos hb',if_pos (by omega),if_pos (by omega),if_neg (by omega),wide_sure_val,obs,if_pos rfl]
    congr 3<;>omega
  · have hb':¬(b:Int)<(d:Int)+0:=by omega
    rw[if_pos (by omega),if_pos (by omega),if_pos (by omega),if_pos (by omega),if_pos (by omega),if_pos (by omega),if_neg hb',if_pos (by omega),if_pos (by omega),if_neg (by omega),wide_sure_val,obs,if_pos rfl]
    congr 3<;>omega
theorem ratio_less_val (n:Nat) {x y:Nat} (hx:x<340282366920938463463374607431768211456) (h:y≤x):ratio_less (n+3) (ofN x) (ofN y)=some (ofN (x-y)):=by
  rw[ratio_less_eq,wide_sub n hx h];rfl
theorem wide_lessN (n:Nat) {x y:Nat} (hx:x<340282366920938463463374607431768211456) (hy:y<340282366920938463463374607431768211456):wide_Less (n+1) (ofN x) (ofN y)=some (decide (x<y)):=by
  rw[wide_less n (ofN_ok hx) (ofN_ok hy),wv_ofN,wv_ofN]
  congr 1
  exact decide_eq_decide.2 (by omega)
theorem tz_pow (n:Nat):((List.range 64).all fun t=>match bits_tz64 (n+1) ((2^t:Nat):Int) with | some r=>decide (r=(t:Int)) | none=>false)=true:=by kernel_rfl
theorem tz_at (n t:Nat) (ht:t<64):bits_tz64 (n+1) ((2^t:Nat):Int)=some (t:Int):=by
  have h:=List.all_eq_true.1 (tz_pow n) t (List.mem_range.2 ht)
  split at h
  · rename_i r hr;rw[hr,of_decide_eq_true h]
  · cases h
theorem low_term {x:Nat} (h0:0<x) (h:x<18446744073709551616):andI .u64 (x:Int) (IntKind.wrap .u64 ((0:Int)-x))=((2^tz 64 x:Nat):Int):=by
  rw[show IntKind.wrap .u64 ((0:Int)-x)=((18446744073709551616-x:Nat):Int) by rw[IntKind.wrap_u64];omega,andN h (by omega)]
  exact congrArg Int.ofNat (low_bit h0 h)
theorem tz_val (n:Nat) {x:Nat} (h0:0<x) (h:x<18446744073709551616):bits_tz64 (n+1) (x:Int)=some ((tz 64 x:Nat):Int):=by
  have ht:=(tz_spec 64 x h0 h).1
  have hp:=Nat.two_pow_pos (tz 64 x)
  have hp2:2^tz 64 x<18446744073709551616:=Nat.pow_lt_pow_right (a:=2) (by decide) ht
  rw[←tz_at n _ ht]
  have e:tz 64 (2^tz 64 x)=tz 64 x:=tz_unique hp hp2 (Nat.mod_self _) (by rw[Nat.div_self hp])
  rw[bits_tz64_eq,bits_tz64_eq,low_term h0 h,low_term hp hp2,e,decide_eq_false (show ¬((x:Int)=0) by omega),decide_eq_false (show ¬(((2^tz 64 x:Nat):Int)=0) by omega)]
theorem noughts_val (n:Nat) {x:Nat} (h0:0<x) (h:x<340282366920938463463374607431768211456):ratio_noughts (n+2) (ofN x)=some ((tz 128 x:Nat):Int):=by
  rw[ratio_noughts_eq]
  show tif (decide (((x % 18446744073709551616:Nat):Int)=0)) (obind (bits_tz64 (n+1) ((x / 18446744073709551616:Nat):Int)) fun r0=>some (IntKind.wrap .i64 (64+r0))) (obind (bits_tz64 (n+1) ((x % 18446744073709551616:Nat):Int)) fun r1=>some r1)=_
  rw[tfd]
  by_cases c:x % 18446744073709551616=0
  · have h1:0<x / 18446744073709551616:=by omega
    have h2:x / 18446744073709551616<18446744073709551616:=Nat.div_lt_of_lt_mul h
    have ht:=(tz_spec 64 _ h1 h2).1
    rw[if_pos (by omega),tz_val n h1 h2,obs,w64 (by omega) (by omega),tz_hi h c h0]
    congr 1
  · rw[if_neg (by omega),tz_val n (by omega) (Nat.mod_lt _ (by decide)),obs,tz_lo h (by omega)]
theorem lenT_at {z:Nat} (h:z<256):∃r,at? lenT (z:Int)=some r∧r.toNat=bl 64 z:=by
  have h1:=List.all_eq_true.1 lenT_all z (List.mem_range.2 h)
  split at h1
  · rename_i r hr
    refine ⟨r,?_,of_decide_eq_true h1⟩
    unfold at?
    rw[decide_eq_true (by omega)]
    exact hr
  · cases h1
theorem len_leaf {x s K:Nat} {I S:Int} (hK:K=2^s) (hI:I=((x / K:Nat):Int)) (hS:S=s) (h2:x / K<256) (h1:K≤x∨s=0) (hx:x<18446744073709551616) (hs:s≤56) :
    (obind (at? lenT (IntKind.wrap .u8 I)) fun r=>some (IntKind.wrap .i64 (S+IntKind.wrap .i64 (((UInt8.toNat r):Nat):Int))))=some ((bl 64 x:Nat):Int):=by
  obtain ⟨r,hr,hb⟩:=lenT_at h2
  have hle:=(bl_spec 64 (x / K) (Nat.lt_of_le_of_lt (Nat.div_le_self _ _) hx)).2.2
  have e:bl 64 x=s+bl 64 (x / K):=by
    rcases h1 with h1 | rfl
    · rw[hK] at h1 ⊢
      exact bl_shift hx h1
    · subst hK;simp
  rw[hI,e]
  generalize x / K=z at *
  rw[wu8 (by omega) (by omega),hr,obs,hb,w64 (x:=((bl 64 z:Nat):Int)) (by omega) (by omega),hS,w64 (by omega) (by omega)]
  congr 1
theorem len64_val (n:Nat) {x:Nat} (h:x<18446744073709551616):math_bits_Len64 (n+1) (x:Int)=some ((bl 64 x:Nat):Int):=by
  have s32:∀z:Nat,shrI .u64 (z:Int) (32:Int)=((z / 4294967296:Nat):Int):=fun z=>shrN z 32 (by decide)
  have s16:∀z:Nat,shrI .u64 (z:Int) (16:Int)=((z / 65536:Nat):Int):=fun z=>shrN z 16 (by decide)
  have s8:∀z:Nat,shrI .u64 (z:Int) (8:Int)=((z / 256:Nat):Int):=fun z=>shrN z 8 (by decide)
  have h':=h
  rw[len64_tree]
  simp only[s32,s16,s8,tfd]
  by_cases c5:4294967296≤x
  · rw[if_pos (by omega)]
    by_cases c4:65536≤x / 4294967296
    · rw[if_pos (by omega)]
      by_cases c3:256≤x / 4294967296 / 65536
      · rw[if_pos (by omega)]
        exact len_leaf (s:=56) (K:=72057594037927936) rfl (by omega) rfl (by omega) (.inl (by omega)) h (by decide)
      · rw[if_neg (by omega)]
        exact len_leaf (s:=48) (K:=281474976710656) rfl (by omega) rfl (by omega) (.inl (by omega)) h (by decide)
    · rw[if_neg (by omega)]
      by_cases c3:256≤x / 4294967296
      · rw[if_pos (by omega)]
        exact len_leaf (s:=40) (K:=1099511627776) rfl (by omega) rfl (by omega) (.inl (by omega)) h (by decide)
      · rw[if_neg (by omega)]
        exact len_leaf (s:=32) (K:=4294967296) rfl (by omega) rfl (by omega) (.inl (by omega)) h (by decide)
  · rw[if_neg (by omega)]
    by_cases c4:65536≤x
    · rw[if_pos (by omega)]
      by_cases c3:256≤x / 65536
      · rw[if_pos (by omega)]
        exact len_leaf (s:=24) (K:=16777216) rfl (by omega) rfl (by omega) (.inl (by omega)) h (by decide)
      · rw[if_neg (by omega)]
        exact len_leaf (s:=16) (K:=65536) rfl (by omega) rfl (by omega) (.inl (by omega)) h (by decide)
    · rw[if_neg (by omega)]
      by_cases c3:256≤x
      · rw[if_pos (by omega)]
        exact len_leaf (s:=8) (K:=256) rfl (by omega) rfl (by omega) (.inl (by omega)) h (by decide)
      · rw[if_neg (by omega)]
        exact len_leaf (s:=0) (K:=1) rfl (by omega) rfl (by omega) (.inr rfl) h (by decide)
theorem long_val (n:Nat) {x:Nat} (h:x<340282366920938463463374607431768211456):ratio_long (n+2) (ofN x)=some ((bl 128 x:Nat):Int):=by
  rw[ratio_long_eq]
  show tif (!decide (((x / 18446744073709551616:Nat):Int)=0)) (obind (math_bits_Len64 (n+1) ((x / 18446744073709551616:Nat):Int)) fun r0=>some (IntKind.wrap .i64 (64+r0))) (obind (math_bits_Len64 (n+1) ((x % 18446744073709551616:Nat):Int)) fun r1=>some r1)=_
  have hq:x / 18446744073709551616<18446744073709551616:=Nat.div_lt_of_lt_mul h
  rw[tfn,tfd]
  by_cases c:x / 18446744073709551616=0
  · have hx:x<18446744073709551616:=by omega
    rw[if_pos (by omega),len64_val n (Nat.mod_lt _ (by decide)),obs,Nat.mod_eq_of_lt hx,bl_wider (k:=64) (m:=128) hx h]
  · have hle:=(bl_spec 64 (x / 18446744073709551616) hq).2.2
    rw[if_neg (by omega),len64_val n hq,obs,w64 (by omega) (by omega),bl_shift (k:=128) (s:=64) h (by omega)]
    rw[←bl_wider (k:=128) (m:=64) (x:=x / 18446744073709551616) (Nat.lt_of_lt_of_le hq (by decide)) hq]
    congr 1
theorem or_ofN {x y:Nat} (hx:x<340282366920938463463374607431768211456) (hy:y<340282366920938463463374607431768211456):((orI .u64 (ofN x).1 (ofN y).1,orI .u64 (ofN x).2 (ofN y).2):Wd)=ofN (x ||| y):=by
  show ((orI .u64 ((x / 18446744073709551616:Nat):Int) ((y / 18446744073709551616:Nat):Int),orI .u64 ((x % 18446744073709551616:Nat):Int) ((y % 18446744073709551616:Nat):Int)):Wd)=((((x ||| y) / 18446744073709551616:Nat):Int),(((x ||| y) % 18446744073709551616:Nat):Int))
  have e1:(x ||| y) / 18446744073709551616=x / 18446744073709551616 ||| y / 18446744073709551616:=Nat.or_div_two_pow (n:=64)
  have e2:(x ||| y) % 18446744073709551616=x % 18446744073709551616 ||| y % 18446744073709551616:=Nat.or_mod_two_pow (n:=64)
  rw[e1,e2,orN (Nat.div_lt_of_lt_mul hx) (Nat.div_lt_of_lt_mul hy),orN (Nat.mod_lt _ (by decide)) (Nat.mod_lt _ (by decide))]
theorem one_ofN:((0,1):Wd)=ofN 1:=rfl
theorem zero_ofN:((0,0):Wd)=ofN 0:=rfl
theorem whole_l3 (n:Nat) {d A:Nat} (hd:0<d) (hA:A<340282366920938463463374607431768211456) (hdM:d<340282366920938463463374607431768211456) (s4:Wd):∀(k f a q:Nat),q+a / d=A / d→a≤A→a<d*2^k→2^k ∣ q→(k=0∨d*2^(k-1)<340282366920938463463374607431768211456)→k≤128→k<f →
    ratio_whole_l3 (n+3) f (ofN a,ofN d,s4,ofN q,(k:Int)-1,())=some (.inl (s4,ofN (A / d),())):=by
  intro k
  induction k with
  | zero =>
    intro f a q h1 h2 h3 h4 h5 h6 hf
    obtain ⟨f,rfl⟩:∃g,f=g+1:=⟨f-1,by omega⟩
    rw[ratio_whole_l3_eq,decide_eq_false (by omega),tff]
    rw[Nat.pow_zero,Nat.mul_one] at h3
    rw[Nat.div_eq_of_lt h3,Nat.add_zero] at h1
    rw[h1]
  | succ k ih =>
    intro f a q h1 h2 h3 h4 h5 h6 hf
    obtain ⟨f,rfl⟩:∃g,f=g+1:=⟨f-1,by omega⟩
    have h5':d*2^k<340282366920938463463374607431768211456:=by
      rcases h5 with h | h
      · cases h
      · exact h
    have hk5:k=0∨d*2^(k-1)<340282366920938463463374607431768211456:=by
      rcases Nat.eq_zero_or_pos k with e | e
      · exact .inl e
      · refine .inr (Nat.lt_of_le_of_lt (Nat.mul_le_mul_left d (Nat.pow_le_pow_right (by decide) (Nat.sub_le _ _))) h5')
    have hpk:2^k<340282366920938463463374607431768211456:=Nat.lt_of_lt_of_le (Nat.pow_lt_pow_right (a:=2) (n:=128) (by decide) (by omega)) (by decide)
    have eb:((k+1:Nat):Int)-1=(k:Int):=by omega
    have hq2:2^k ∣ q:=Nat.dvd_trans (Nat.pow_dvd_pow 2 (Nat.le_succ k)) h4
    rw[ratio_whole_l3_eq,eb,decide_eq_true (by omega),tft,ratio_up_val (n+2) d k (by omega) h5',obs,wide_lessN (n+2) (by omega) h5',obs,w64 (by omega) (by omega),tfd]
    by_cases hlt:a<d*2^k
    · rw[if_pos hlt]
      exact ih f a q h1 h2 hlt hq2 hk5 (by omega) (by omega)
    · rw[if_neg hlt,ratio_less_val n (by omega) (by omega),obs,wide_of,obs,one_ofN,ratio_up_val (n+2) 1 k (by omega) (by rw[Nat.one_mul];exact hpk),obs,Nat.one_mul]
      have hqA:q≤A / d:=by rw[←h1];exact Nat.le_add_right _ _
      have hqM:q<340282366920938463463374607431768211456:=Nat.lt_of_le_of_lt (Nat.le_trans hqA (Nat.div_le_self _ _)) hA
      rw[or_ofN hqM hpk,or_pow h4]
      refine ih f (a-d*2^k) (q+2^k) ?_ (by omega) ?_ (Nat.dvd_add hq2 (Nat.dvd_refl _)) hk5 (by omega) (by omega)
      · rw[div_part hd (by omega)];exact h1
      · rw[Nat.pow_succ,←Nat.mul_assoc] at h3;omega
theorem ratio_whole_val (n:Nat) {a d:Nat} (ha:a<340282366920938463463374607431768211456) (hd:0<d) (hdM:d<340282366920938463463374607431768211456):ratio_whole (n+4) (ofN a) (ofN d)=some (ofN (a / d)):=by
  have la:=(bl_spec 128 a ha).2.2
  have ld:=(bl_spec 128 d hdM).2
  have ld1:=(ld.1 hd).1
  rw[ratio_whole_eq,long_val (n+1) ha,obs,long_val (n+1) hdM,obs,w64 (by omega) (by omega)]
  by_cases h:bl 128 d≤bl 128 a
  · have h0:0<a:=by
      rcases Nat.eq_zero_or_pos a with e | e
      · rw[e,bl_zero] at h;omega
      · exact e
    have e:((bl 128 a:Nat):Int)-((bl 128 d:Nat):Int)=((bl 128 a-bl 128 d+1:Nat):Int)-1:=by omega
    rw[e,zero_ofN,whole_l3 n hd ha hdM _ (bl 128 a-bl 128 d+1) loopFuel a 0 (by omega) (Nat.le_refl _) (bl_over ha hdM hd) (Nat.dvd_zero _) (.inr (by rw[Nat.add_sub_cancel];exact bl_up ha hdM (by omega) h0)) (by omega) (by unfold loopFuel;omega),obs,selim_inl]
  · have hlt:=bl_less ha hdM (by omega)
    rw[show loopFuel=(2^70-1)+1 from rfl,ratio_whole_l3_eq,decide_eq_false (by omega),tff,obs,selim_inl,Nat.div_eq_of_lt hlt];rfl
theorem gcd_step (n:Nat) {A B f:Nat} (ha0:0<A) (ha:A<340282366920938463463374607431768211456) (hb0:0<B) (hb:B<340282366920938463463374607431768211456) (s4:Wd) (tw:Int):ratio_Gcd_l5 (n+3) (f+1) (ofN A,ofN B,s4,tw,()) =
    if od B<A then ratio_Gcd_l5 (n+3) f (ofN (od B),ofN (A-od B),s4,tw,()) else ratio_Gcd_l5 (n+3) f (ofN A,ofN (od B-A),s4,tw,()):=by
  have ht:=(od_spec hb0 hb).1
  have hle:od B<340282366920938463463374607431768211456:=Nat.lt_of_le_of_lt (od_le B) hb
  rw[ratio_Gcd_l5_eq,ratio_none_val,obs,tfn,decide_eq_false (by omega),tff,noughts_val (n+1) hb0 hb,obs,ratio_down_val (n+2) B _ ht hb,obs]
  change obind (wide_Less (n+3) (ofN (od B)) (ofN A)) _=_
  rw[wide_lessN (n+2) hle ha,obs,tfd]
  by_cases h:od B<A
  · rw[if_pos h,if_pos h]
    change obind (ratio_less (n+3) (ofN A) (ofN (od B))) _=_
    rw[ratio_less_val n ha (by omega),obs];rfl
  · rw[if_neg h,if_neg h]
    change obind (ratio_less (n+3) (ofN (od B)) (ofN A)) _=_
    rw[ratio_less_val n hle (by omega),obs]
theorem gcd_l5 (n:Nat) (s4:Wd) (tw:Int):∀(k f A B:Nat),0<A→A<340282366920938463463374607431768211456→A % 2=1→B<340282366920938463463374607431768211456→B % 2=0→A*B<2^k→k<f →
    ratio_Gcd_l5 (n+3) f (ofN A,ofN B,s4,tw,())=some (.inl (ofN (Nat.gcd A B),s4,tw,())):=by
  intro k
  induction k with
  | zero =>
    intro f A B h1 h2 h3 h4 h5 h6 hf
    obtain ⟨f,rfl⟩:∃g,f=g+1:=⟨f-1,by omega⟩
    have:B=0:=by
      rcases Nat.eq_zero_or_pos B with e | e
      · exact e
      · have:=Nat.mul_pos h1 e;omega
    subst this
    rw[ratio_Gcd_l5_eq,ratio_none_val,obs,tfn,decide_eq_true rfl,tft,Nat.gcd_zero_right]
  | succ k ih =>
    intro f A B h1 h2 h3 h4 h5 h6 hf
    obtain ⟨f,rfl⟩:∃g,f=g+1:=⟨f-1,by omega⟩
    rcases Nat.eq_zero_or_pos B with e | hB
    · subst e
      rw[ratio_Gcd_l5_eq,ratio_none_val,obs,tfn,decide_eq_true rfl,tft,Nat.gcd_zero_right]
    · have hev:=od_even hB h4 h5
      have hod:=(od_spec hB h4).2.2
      have hpos:=od_pos hB h4
      have hg:=gcd_od h3 hB h4
      have hp:A*od B<2^k:=by
        have:A*(2*od B)≤A*B:=Nat.mul_le_mul_left A hev
        rw[Nat.mul_left_comm] at this
        rw[Nat.pow_succ] at h6;omega
      rw[gcd_step n h1 h2 hB h4]
      by_cases h:od B<A
      · rw[if_pos h,ih f (od B) (A-od B) hpos (by omega) hod (by omega) (by omega) (Nat.lt_of_le_of_lt (by rw[Nat.mul_comm A];exact Nat.mul_le_mul_left _ (Nat.sub_le _ _)) hp) (by omega),gcd_less (by omega),Nat.gcd_comm,hg]
      · rw[if_neg h,ih f A (od B-A) h1 h2 h3 (by omega) (by omega) (Nat.lt_of_le_of_lt (Nat.mul_le_mul_left _ (Nat.sub_le _ _)) hp) (by omega),gcd_less (by omega),hg]
theorem gcd_any (n:Nat) (s4:Wd) (tw:Int) {A B:Nat} (h1:0<A) (h2:A<340282366920938463463374607431768211456) (h3:A % 2=1) (hB:0<B) (h4:B<340282366920938463463374607431768211456):ratio_Gcd_l5 (n+3) loopFuel (ofN A,ofN B,s4,tw,())=some (.inl (ofN (Nat.gcd A B),s4,tw,())):=by
  have hod:=(od_spec hB h4).2.2
  have hpos:=od_pos hB h4
  have hle:=od_le B
  have hg:=gcd_od h3 hB h4
  have hm:∀ {x y:Nat},x<340282366920938463463374607431768211456→y<340282366920938463463374607431768211456→x*y<2^256:=fun hx hy=>Nat.lt_of_lt_of_le (Nat.mul_lt_mul'' hx hy) (by decide)
  rw[show loopFuel=(2^70-1)+1 from rfl,gcd_step n h1 h2 hB h4]
  by_cases h:od B<A
  · rw[if_pos h,gcd_l5 n s4 tw 256 _ (od B) (A-od B) hpos (by omega) hod (by omega) (by omega) (hm (by omega) (by omega)) (by decide),gcd_less (by omega),Nat.gcd_comm,hg]
  · rw[if_neg h,gcd_l5 n s4 tw 256 _ A (od B-A) h1 h2 h3 (by omega) (by omega) (hm (by omega) (by omega)) (by decide),gcd_less (by omega),hg]
theorem ratio_gcd (n:Nat) {x y:Nat} (hx:x<340282366920938463463374607431768211456) (hy:y<340282366920938463463374607431768211456):ratio_Gcd (n+4) (ofN x) (ofN y)=some (ofN (Nat.gcd x y)):=by
  rw[ratio_Gcd_eq,ratio_none_val,obs,or_ofN hx hy]
  by_cases h0:x=0
  · subst h0
    rw[decide_eq_true rfl,tft,Nat.gcd_zero_left,Nat.zero_or]
  rw[decide_eq_false h0,tff,ratio_none_val,obs]
  by_cases h1:y=0
  · subst h1
    rw[decide_eq_true rfl,tft,Nat.gcd_zero_right,Nat.or_zero]
  have hx0:0<x:=by omega
  have hy0:0<y:=by omega
  obtain ⟨a1,a2,a3⟩:=od_spec hx0 hx
  obtain ⟨b1,b2,b3⟩:=od_spec hy0 hy
  have hle:od x<340282366920938463463374607431768211456:=Nat.lt_of_le_of_lt (od_le x) hx
  rw[decide_eq_false h1,tff,noughts_val (n+1) hx0 hx,obs,noughts_val (n+1) hy0 hy,obs,obs,ratio_down_val (n+2) x _ a1 hx,obs]
  change obind (ratio_Gcd_l5 (n+3) loopFuel (ofN (od x),ofN y,_,_,())) _=_
  rw[gcd_any n _ _ (od_pos hx0 hx) hle a3 hy0 hy,obs,selim_inl]
  have e:(if ((tz 128 y:Nat):Int)<((tz 128 x:Nat):Int) then ((tz 128 y:Nat):Int) else ((tz 128 x:Nat):Int))=((min (tz 128 x) (tz 128 y):Nat):Int):=by
    split<;>omega
  have hg:=gcd_whole hx0 hx hy0 hy
  have hlt:Nat.gcd x y<340282366920938463463374607431768211456:=Nat.lt_of_le_of_lt (Nat.gcd_le_left y hx0) hx
  simp only
  rw[e,ratio_up_val (n+2) _ _ (by omega) (by rw[←hg];exact hlt),obs,←hg]
def bys (x:Nat):List Int:=(List.range 16).map fun j=>((byt x j:Nat):Int)
theorem bys_len (x:Nat):(bys x).length=16:=by simp[bys]
theorem bys_at (x:Nat) {j:Nat} (h:j<16):(bys x)[j]? = some ((byt x j:Nat):Int):=by
  unfold bys;rw[List.getElem?_map,List.getElem?_range h];rfl
theorem bys_eq (x:Nat):bys x=[((x % 256:Nat):Int),((x / 256 % 256:Nat):Int),((x / 65536 % 256:Nat):Int),((x / 16777216 % 256:Nat):Int),((x / 4294967296 % 256:Nat):Int),((x / 1099511627776 % 256:Nat):Int),((x / 281474976710656 % 256:Nat):Int),((x / 72057594037927936 % 256:Nat):Int),
    ((x / 18446744073709551616 % 256:Nat):Int),((x / 4722366482869645213696 % 256:Nat):Int),((x / 1208925819614629174706176 % 256:Nat):Int),((x / 309485009821345068724781056 % 256:Nat):Int),((x / 79228162514264337593543950336 % 256:Nat):Int),((x / 20282409603651670423947251286016 % 256:Nat):Int),((x / 5192296858534827628530496329220096 % 256:Nat):Int),((x / 1329227995784915872903807060280344576 % 256:Nat):Int)]:=by
  unfold bys byt
  simp[List.range,List.range.loop]
abbrev l16 (r:B16):List Int:=[r.1,r.2.1,r.2.2.1,r.2.2.2.1,r.2.2.2.2.1,r.2.2.2.2.2.1,r.2.2.2.2.2.2.1,r.2.2.2.2.2.2.2.1,r.2.2.2.2.2.2.2.2.1,r.2.2.2.2.2.2.2.2.2.1,r.2.2.2.2.2.2.2.2.2.2.1,r.2.2.2.2.2.2.2.2.2.2.2.1,r.2.2.2.2.2.2.2.2.2.2.2.2.1,r.2.2.2.2.2.2.2.2.2.2.2.2.2.1,r.2.2.2.2.2.2.2.2.2.2.2.2.2.2.1,r.2.2.2.2.2.2.2.2.2.2.2.2.2.2.2]
theorem bys_list (x:Nat):bys x=[((byt x 0:Nat):Int),((byt x 1:Nat):Int),((byt x 2:Nat):Int),((byt x 3:Nat):Int),((byt x 4:Nat):Int),((byt x 5:Nat):Int),((byt x 6:Nat):Int),((byt x 7:Nat):Int),((byt x 8:Nat):Int),((byt x 9:Nat):Int),((byt x 10:Nat):Int),((byt x 11:Nat):Int),((byt x 12:Nat):Int),((byt x 13:Nat):Int),((byt x 14:Nat):Int),((byt x 15:Nat):Int)]:=by
  unfold bys
  simp[List.range,List.range.loop]
theorem digits8 {v x0 x1 x2 x3 x4 x5 x6 x7:Int} (b:Byt x0∧Byt x1∧Byt x2∧Byt x3∧Byt x4∧Byt x5∧Byt x6∧Byt x7) (h:v=x0+x1*256+x2*65536+x3*16777216+x4*4294967296+x5*1099511627776+x6*281474976710656+x7*72057594037927936) :
    x0=v % 256∧x1=v / 256 % 256∧x2=v / 65536 % 256∧x3=v / 16777216 % 256∧x4=v / 4294967296 % 256∧x5=v / 1099511627776 % 256∧x6=v / 281474976710656 % 256∧x7=v / 72057594037927936 % 256:=by
  simp only[Byt] at b
  obtain ⟨⟨_,_⟩,⟨_,_⟩,⟨_,_⟩,⟨_,_⟩,⟨_,_⟩,⟨_,_⟩,⟨_,_⟩,⟨_,_⟩⟩:=b
  refine ⟨?_,?_,?_,?_,?_,?_,?_,?_⟩<;>omega
theorem r01_bytesN (n:Nat) {x:Nat} (h:x<340282366920938463463374607431768211456):∃r:B16,r01_Bytes (n+1) (ofN x)=some r∧l16 r=bys x:=by
  obtain ⟨x0,x1,x2,x3,x4,x5,x6,x7,x8,x9,x10,x11,x12,x13,x14,x15,hr,⟨b0,b1,b2,b3,b4,b5,b6,b7,b8,b9,b10,b11,b12,b13,b14,b15⟩,hlo,hhi⟩:=r01_bytes n (ofN_ok h)
  refine ⟨_,hr,?_⟩
  obtain ⟨c0,c1,c2,c3,c4,c5,c6,c7⟩:=digits8 ⟨b0,b1,b2,b3,b4,b5,b6,b7⟩ hlo
  obtain ⟨d0,d1,d2,d3,d4,d5,d6,d7⟩:=digits8 ⟨b8,b9,b10,b11,b12,b13,b14,b15⟩ hhi
  have elo:(ofN x).2=((x % 18446744073709551616:Nat):Int):=rfl
  have ehi:(ofN x).1=((x / 18446744073709551616:Nat):Int):=rfl
  rw[elo] at c0 c1 c2 c3 c4 c5 c6 c7
  rw[ehi] at d0 d1 d2 d3 d4 d5 d6 d7
  rw[bys_eq]
  simp only[l16]
  clear hr hlo hhi b0 b1 b2 b3 b4 b5 b6 b7 b8 b9 b10 b11 b12 b13 b14 b15
  subst c0 c1 c2 c3 c4 c5 c6 c7 d0 d1 d2 d3 d4 d5 d6 d7
  simp only[List.cons.injEq,and_true]
  refine ⟨?_,?_,?_,?_,?_,?_,?_,?_,?_,?_,?_,?_,?_,?_,?_,?_⟩
  all_goals omega
theorem r01_ofN (n:Nat) {x:Nat} (h:x<340282366920938463463374607431768211456):r01_Of (n+1) (((byt x 0:Nat):Int),((byt x 1:Nat):Int),((byt x 2:Nat):Int),((byt x 3:Nat):Int),((byt x 4:Nat):Int),((byt x 5:Nat):Int),((byt x 6:Nat):Int),((byt x 7:Nat):Int),((byt x 8:Nat):Int),((byt x 9:Nat):Int),((byt x 10:Nat):Int),((byt x 11:Nat):Int),((byt x 12:Nat):Int),((byt x 13:Nat):Int),((byt x 14:Nat):Int),((byt x 15:Nat):Int))=some (ofN x):=by
  obtain ⟨r,hr,hl⟩:=r01_bytesN n h
  obtain ⟨x0,x1,x2,x3,x4,x5,x6,x7,x8,x9,x10,x11,x12,x13,x14,x15,hr',hb,hlo,hhi⟩:=r01_bytes n (ofN_ok h)
  have hr':=Option.some.inj (hr.symm.trans hr')
  subst hr'
  rw[bys_list] at hl
  simp only[l16,List.cons.injEq,and_true] at hl
  obtain ⟨rfl,rfl,rfl,rfl,rfl,rfl,rfl,rfl,rfl,rfl,rfl,rfl,rfl,rfl,rfl,rfl⟩:=hl
  obtain ⟨b0,b1,b2,b3,b4,b5,b6,b7,b8,b9,b10,b11,b12,b13,b14,b15⟩:=hb
  rw[r01_of n b0 b1 b2 b3 b4 b5 b6 b7 b8 b9 b10 b11 b12 b13 b14 b15,←hlo,←hhi]
theorem r01_ofL (n:Nat) {x:Nat} (h:x<340282366920938463463374607431768211456) {R:Type} (k:Wd→Option R) {l:List Int} (hl:l=bys x) :
    (obind (l[0]?) fun r0=>obind (l[1]?) fun r1=>obind (l[2]?) fun r2=>obind (l[3]?) fun r3=>obind (l[4]?) fun r4=>obind (l[5]?) fun r5=>obind (l[6]?) fun r6=>obind (l[7]?) fun r7=>obind (l[8]?) fun r8=>obind (l[9]?) fun r9=>obind (l[10]?) fun r10=>obind (l[11]?) fun r11=>obind (l[12]?) fun r12=>obind (l[13]?) fun r13=>obind (l[14]?) fun r14=>obind (l[15]?) fun r15=>obind (r01_Of (n+1) (r0,(r1,(r2,(r3,(r4,(r5,(r6,(r7,(r8,(r9,(r10,(r11,(r12,(r13,(r14,r15)))))))))))))))) k)=k (ofN x):=by
  subst hl
  have e:∀j:Nat,j<16→(bys x)[j]? = some ((byt x j:Nat):Int):=fun j hj=>bys_at x hj
  rw[e 0 (by decide),e 1 (by decide),e 2 (by decide),e 3 (by decide),e 4 (by decide),e 5 (by decide),e 6 (by decide),e 7 (by decide),e 8 (by decide),e 9 (by decide),e 10 (by decide),e 11 (by decide),e 12 (by decide),e 13 (by decide),e 14 (by decide),e 15 (by decide)]
  simp only[obs,r01_ofN n h]
theorem r01_addN (n:Nat) {x y:Nat} (hx:x<340282366920938463463374607431768211456) (hy:y<340282366920938463463374607431768211456):r01_Add (n+2) (ofN x) (ofN y)=some (if x+y<340282366920938463463374607431768211456 then (ofN (x+y),0) else ((0,0),1)):=by
  rw[r01_add n (ofN_ok hx) (ofN_ok hy)]
  unfold addW
  rw[wv_ofN,wv_ofN]
  have e:(x:Int)+y=((x+y:Nat):Int):=by omega
  rw[e,mkW_nat]
  by_cases h:x+y<340282366920938463463374607431768211456
  · rw[if_pos h,if_pos (by omega)]
  · rw[if_neg h,if_neg (by omega)]
theorem r01_lessN (n:Nat) {x y:Nat} (hx:x<340282366920938463463374607431768211456) (hy:y<340282366920938463463374607431768211456):r01_Less (n+2) (ofN x) (ofN y)=some (decide (x<y)):=by
  rw[r01_less n (ofN_ok hx) (ofN_ok hy),wv_ofN,wv_ofN]
  congr 1
  exact decide_eq_decide.2 (by omega)
def subL (A B i:Nat):List Int:=(List.range 16).map fun j=>(((if j<i then byt (A-B) j else byt A j):Nat):Int)
def owe (A B i:Nat):Nat:=if A % 256^i<B % 256^i then 1 else 0
theorem subL_len (A B i:Nat):(subL A B i).length=16:=by simp[subL]
theorem subL_at (A B i:Nat) {j:Nat} (h:j<16):(subL A B i)[j]? = some (((if j<i then byt (A-B) j else byt A j):Nat):Int):=by
  unfold subL;rw[List.getElem?_map,List.getElem?_range h];rfl
theorem subL_set (A B:Nat) {i:Nat} (h:i<16):(subL A B i).set i ((byt (A-B) i:Nat):Int)=subL A B (i+1):=by
  apply List.ext_getElem?
  intro j
  rw[List.getElem?_set,subL_len]
  by_cases hj:j<16
  · rw[subL_at _ _ _ hj,subL_at _ _ _ hj]
    by_cases e:i=j
    · subst e;rw[if_pos rfl,if_pos h,if_pos (by omega)]
    · rw[if_neg e]
      by_cases hlt:j<i
      · rw[if_pos hlt,if_pos (by omega)]
      · rw[if_neg hlt,if_neg (by omega)]
  · rw[if_neg (by omega),List.getElem?_eq_none (by rw[subL_len];omega),List.getElem?_eq_none (by rw[subL_len];omega)]
theorem owe_step {A B:Nat} (hle:B≤A) (i:Nat) :
    (byt A i<byt B i+owe A B i→owe A B (i+1)=1∧byt (A-B) i+byt B i+owe A B i=byt A i+256) ∧
    (byt B i+owe A B i≤byt A i→owe A B (i+1)=0∧byt (A-B) i+byt B i+owe A B i=byt A i):=by
  have hp:0<256^i:=Nat.pow_pos (by decide)
  have ea:=Nat.div_add_mod A (256^i)
  have eb:=Nat.div_add_mod B (256^i)
  have la:=Nat.mod_lt A hp
  have lb:=Nat.mod_lt B hp
  have ea2:A % 256^(i+1)=256^i*(A / 256^i % 256)+A % 256^i:=by rw[Nat.pow_succ,Nat.mod_mul];omega
  have eb2:B % 256^(i+1)=256^i*(B / 256^i % 256)+B % 256^i:=by rw[Nat.pow_succ,Nat.mod_mul];omega
  unfold owe byt
  rw[ea2,eb2]
  generalize hP:256^i=P at *
  generalize hA':A / P=A' at *
  generalize hB':B / P=B' at *
  generalize ha:A % P=a at *
  generalize hb:B % P=b at *
  have key:(A-B) / P+B'+(if a<b then 1 else 0)=A':=by
    by_cases hlt:a<b
    · rw[if_pos hlt]
      have hAB:B'+1≤A':=by
        rcases Nat.lt_or_ge B' A' with q | q
        · exact q
        · have:=Nat.mul_le_mul_left P q;omega
      obtain ⟨c,hc⟩:∃c,A'=B'+1+c:=⟨A'-(B'+1),by omega⟩
      have e1:P*A'=P*B'+P+P*c:=by rw[hc,Nat.mul_add,Nat.mul_add,Nat.mul_one]
      have e2:A-B=P*c+(P+a-b):=by omega
      rw[e2,Nat.mul_add_div hp,Nat.div_eq_of_lt (by omega)]
      omega
    · rw[if_neg hlt]
      have hAB:B'≤A':=by
        rcases Nat.lt_or_ge A' B' with q | q
        · have:=Nat.mul_le_mul_left P q
          rw[Nat.mul_succ] at this
          omega
        · exact q
      obtain ⟨c,hc⟩:∃c,A'=B'+c:=⟨A'-B',by omega⟩
      have e1:P*A'=P*B'+P*c:=by rw[hc,Nat.mul_add]
      have e2:A-B=P*c+(a-b):=by omega
      rw[e2,Nat.mul_add_div hp,Nat.div_eq_of_lt (by omega)]
      omega
  generalize (A-B) / P=D at *
  have cmp:(P*(A' % 256)+a<P*(B' % 256)+b)↔(A' % 256<B' % 256∨A' % 256=B' % 256∧a<b):=by
    rcases Nat.lt_trichotomy (A' % 256) (B' % 256) with q | q | q
    · have:=Nat.mul_le_mul_left P q
      rw[Nat.mul_succ] at this
      constructor
      · intro _;exact .inl q
      · intro _;omega
    · rw[q];constructor
      · intro h;exact .inr ⟨rfl,by omega⟩
      · rintro (h | ⟨_,h⟩)<;>omega
    · have:=Nat.mul_le_mul_left P q
      rw[Nat.mul_succ] at this
      constructor
      · intro h;omega
      · rintro (h | ⟨h,_⟩)<;>omega
  by_cases hab:a<b
  · simp only[if_pos hab] at key ⊢
    constructor
    · intro h
      rw[if_pos (cmp.2 (by omega))]
      exact ⟨rfl,by omega⟩
    · intro h
      rw[if_neg (fun q=>by have:=cmp.1 q;omega)]
      exact ⟨rfl,by omega⟩
  · simp only[if_neg hab] at key ⊢
    constructor
    · intro h
      rw[if_pos (cmp.2 (by omega))]
      exact ⟨rfl,by omega⟩
    · intro h
      rw[if_neg (fun q=>by have:=cmp.1 q;omega)]
      exact ⟨rfl,by omega⟩
theorem r01_sub_l6 (n:Nat) {A B:Nat} (hle:B≤A) (s4:Wd):∀(k f i:Nat),i+k=16→k<f →
    r01_Sub_l6 n f (s4,subL A B i,bys B,((owe A B i:Nat):Int),(i:Int),())=some (.inl (s4,bys (A-B),())):=by
  intro k
  induction k with
  | zero =>
    intro f i hi hf
    obtain ⟨f,rfl⟩:∃g,f=g+1:=⟨f-1,by omega⟩
    have:i=16:=by omega
    subst this
    rw[r01_Sub_l6_eq,decide_eq_false (by decide),tff]
    congr 3
  | succ k ih =>
    intro f i hi hf
    obtain ⟨f,rfl⟩:∃g,f=g+1:=⟨f-1,by omega⟩
    have hlt:i<16:=by omega
    have g1:=byt_lt A i
    have g2:=byt_lt B i
    have g3:=byt_lt (A-B) i
    have g4:owe A B i≤1:=by unfold owe;split<;>omega
    obtain ⟨s1,s2⟩:=owe_step hle i
    have next:=ih f (i+1) (by omega) (by omega)
    rw[r01_Sub_l6_eq,subL_len,bys_len,Int.toNat_natCast,subL_at _ _ _ hlt,bys_at _ hlt,if_neg (Nat.lt_irrefl i)]
    simp only[decide_eq_true (show (i:Int)<16 by omega),decide_eq_true (show (0:Int)≤(i:Int) by omega),decide_eq_true (show (i:Int)<((16:Nat):Int) by omega),Bool.and_self,tft,obs]
    rw[w64 (x:=((byt A i:Nat):Int)-((byt B i:Nat):Int)) (by omega) (by omega),w64 (x:=((byt A i:Nat):Int)-((byt B i:Nat):Int)-((owe A B i:Nat):Int)) (by omega) (by omega),w64 (x:=(i:Int)+1) (by omega) (by omega),tfd]
    by_cases h:byt A i<byt B i+owe A B i
    · obtain ⟨t1,t2⟩:=s1 h
      rw[t1] at next
      rw[if_pos (by omega),w64 (by omega) (by omega),show ((byt A i:Nat):Int)-((byt B i:Nat):Int)-((owe A B i:Nat):Int)+256=((byt (A-B) i:Nat):Int) by omega,subL_set _ _ hlt]
      exact next
    · obtain ⟨t1,t2⟩:=s2 (by omega)
      rw[t1] at next
      rw[if_neg (by omega),show ((byt A i:Nat):Int)-((byt B i:Nat):Int)-((owe A B i:Nat):Int)=((byt (A-B) i:Nat):Int) by omega,subL_set _ _ hlt]
      exact next
theorem r01_subN (n:Nat) {A B:Nat} (hA:A<340282366920938463463374607431768211456) (hle:B≤A):r01_Sub (n+3) (ofN A) (ofN B)=some (ofN (A-B),0):=by
  obtain ⟨ra,ha,hla⟩:=r01_bytesN (n+1) hA
  obtain ⟨rb,hb,hlb⟩:=r01_bytesN (n+1) (Nat.lt_of_le_of_lt hle hA)
  rw[r01_Sub_eq,r01_lessN n hA (Nat.lt_of_le_of_lt hle hA),obs,decide_eq_false (by omega),tff,ha,obs,hb,obs]
  rw[show (decide (16=((((((((((((((((1+1)+1)+1)+1)+1)+1)+1)+1)+1)+1)+1)+1)+1)+1)+1) / 1)))=true from rfl,tft,tft]
  have e0:subL A B 0=bys A:=by unfold subL bys;apply List.map_congr_left;intro j _;rw[if_neg (Nat.not_lt_zero j)]
  have:=r01_sub_l6 (n+2) hle (0,0) 16 loopFuel 0 rfl (by decide)
  rw[e0,show owe A B 0=0 by unfold owe;simp[Nat.mod_one],←hla,←hlb] at this
  change obind (r01_Sub_l6 (n+2) loopFuel ((0,0),l16 ra,l16 rb,((0:Nat):Int),((0:Nat):Int),())) _=_
  rw[this,obs,selim_inl]
  exact r01_ofL (n+1) (Nat.lt_of_le_of_lt (Nat.sub_le _ _) hA) (fun r=>some (r,0)) rfl
theorem lo_ofN {b:Nat} (h:b<18446744073709551616):(((0:Int),(b:Int)):Wd)=ofN b:=by
  unfold ofN
  rw[Nat.div_eq_of_lt h,Nat.mod_eq_of_lt h];rfl
theorem shr64 (v k:Nat) (hk:k≤64):shrI .i64 (v:Int) (k:Int)=((v / 2^k:Nat):Int):=shrN v k hk
theorem and1 {v:Nat} (h:v<256):andI .i64 (v:Int) (1:Int)=((v % 2:Nat):Int):=by
  unfold andI
  have e2:(BitVec.ofInt IntKind.i64.bits (v:Int) &&& BitVec.ofInt IntKind.i64.bits (1:Int)).toNat=v % 2:=by
    show (BitVec.ofInt 64 (v:Int) &&& BitVec.ofInt 64 ((1:Nat):Int)).toNat=_
    rw[BitVec.toNat_and,BitVec.ofInt_natCast,BitVec.ofInt_natCast,BitVec.toNat_ofNat,BitVec.toNat_ofNat,Nat.mod_eq_of_lt (by omega),Nat.mod_eq_of_lt (by omega)]
    exact Nat.and_one_is_mod v
  rw[e2]
  exact w64 (by omega) (by omega)
theorem orbit {v j:Nat} (h:v<256) (hj:j<8):orI .i64 (v:Int) (shlI .i64 (1:Int) (j:Int))=((v ||| 2^j:Nat):Int):=by
  have hp:2^j<256:=Nat.lt_of_lt_of_le (Nat.pow_lt_pow_right (a:=2) (n:=8) (by decide) hj) (by decide)
  have e1:shlI .i64 (1:Int) (j:Int)=((2^j:Nat):Int):=by
    show IntKind.wrap .i64 ((1:Int)*2^(min (j:Int).toNat 64))=_
    rw[show min (j:Int).toNat 64=j by omega,Int.one_mul]
    have:(2:Int)^j=((2^j:Nat):Int):=by simp
    rw[this]
    generalize 2^j=p at hp
    exact w64 (by omega) (by omega)
  rw[e1]
  unfold orI
  have e2:(BitVec.ofInt IntKind.i64.bits (v:Int) ||| BitVec.ofInt IntKind.i64.bits ((2^j:Nat):Int)).toNat=v ||| 2^j:=by
    show (BitVec.ofInt 64 (v:Int) ||| BitVec.ofInt 64 ((2^j:Nat):Int)).toNat=_
    rw[BitVec.toNat_or,BitVec.ofInt_natCast,BitVec.ofInt_natCast,BitVec.toNat_ofNat,BitVec.toNat_ofNat,Nat.mod_eq_of_lt (by omega),Nat.mod_eq_of_lt (by omega)]
  rw[e2]
  have:v ||| 2^j<2^8:=Nat.or_lt_two_pow (by omega) (by omega)
  exact w64 (by omega) (by omega)
theorem bys_set {v i:Nat} (hi:i<128) (h:2^(i+1) ∣ v):(bys v).set (i / 8) ((byt v (i / 8) ||| 2^(i % 8):Nat):Int)=bys (v+2^i):=by
  apply List.ext_getElem?
  intro j
  rw[List.getElem?_set,bys_len]
  by_cases hj:j<16
  · rw[bys_at _ hj,bys_at _ hj,byt_or h]
    by_cases e:i / 8=j
    · rw[if_pos e,if_pos e,if_pos (by omega),e]
    · rw[if_neg e,if_neg e]
  · rw[if_neg (by omega),List.getElem?_eq_none (by rw[bys_len];omega),List.getElem?_eq_none (by rw[bys_len];omega)]
theorem bit_at (A:Nat) {k:Nat}:IntKind.wrap .u64 (andI .i64 (shrI .i64 ((byt A (k / 8):Nat):Int) ((k % 8:Nat):Int)) (1:Int))=((A / 2^k % 2:Nat):Int):=by
  have hb:=byt_lt A (k / 8)
  rw[shr64 _ _ (by omega),and1 (Nat.lt_of_le_of_lt (Nat.div_le_self _ _) hb),bit_byt,wu64 (by omega) (by omega)]
theorem r02_whole_l7 (n:Nat) {A D:Nat} (hA:A<340282366920938463463374607431768211456) (hD:D<340282366920938463463374607431768211456) (hD0:0<D) (s4 s5:Wd):∀(k f q r:Nat),k≤128→A / 2^k=D*q+r→r<D→k<f →
    r02_Whole_l7 (n+3) f (ofN D,s4,s5,bys (q*2^k),ofN r,bys A,(k:Int)-1,())=some (.inl (s4,s5,bys (A / D),ofN (A % D),())):=by
  intro k
  induction k with
  | zero =>
    intro f q r hk h hr hf
    obtain ⟨f,rfl⟩:∃g,f=g+1:=⟨f-1,by omega⟩
    rw[Nat.pow_zero,Nat.div_one] at h
    obtain ⟨e1,e2⟩:=(Nat.div_mod_unique (a:=A) (c:=r) (d:=q) hD0).2 ⟨by omega,hr⟩
    rw[r02_Whole_l7_eq,decide_eq_false (by omega),tff,e1,e2,Nat.pow_zero,Nat.mul_one]
  | succ k ih =>
    intro f q r hk h hr hf
    obtain ⟨f,rfl⟩:∃g,f=g+1:=⟨f-1,by omega⟩
    obtain ⟨d1,d2⟩:=div_step (L:=0) hD0 h hr
    have e1:IntKind.wrap .i64 (Int.tdiv (k:Int) 8)=((k / 8:Nat):Int):=by rw[tdiv_nn (by omega),w64 (by omega) (by omega)];omega
    have e2:Int.tmod (k:Int) 8=((k % 8:Nat):Int):=by rw[tmod_nn (by omega)];omega
    have eb:((k+1:Nat):Int)-1=(k:Int):=by omega
    have hk8:k / 8<16:=by omega
    have hbit:A / 2^k % 2<2:=Nat.mod_lt _ (by decide)
    have hdvd:2^(k+1) ∣ q*2^(k+1):=Nat.dvd_mul_left _ _
    have eq1:(2*q+1)*2^k=q*2^(k+1)+2^k:=by rw[Nat.pow_succ,Nat.add_mul,Nat.one_mul,Nat.mul_comm 2 q,Nat.mul_assoc,Nat.mul_comm 2 (2^k)]
    have eq0:(2*q)*2^k=q*2^(k+1):=by rw[Nat.pow_succ,Nat.mul_comm 2 q,Nat.mul_assoc,Nat.mul_comm 2 (2^k)]
    have hset:=bys_set (v:=q*2^(k+1)) (i:=k) (by omega) hdvd
    have hob:=orbit (v:=byt (q*2^(k+1)) (k / 8)) (j:=k % 8) (byt_lt _ _) (by omega)
    have c1:decide ((0:Int)≤((k / 8:Nat):Int))=true:=decide_eq_true (by omega)
    have c2:decide (((k / 8:Nat):Int)<(16:Int))=true:=decide_eq_true (by omega)
    have c3:decide (((k / 8:Nat):Int)<((16:Nat):Int))=true:=decide_eq_true (by omega)
    have c4:decide (((k % 8:Nat):Int)<(0:Int))=false:=decide_eq_false (by omega)
    rw[r02_Whole_l7_eq,eb,decide_eq_true (by omega),tft,r01_addN (n+1) (by omega) (by omega),obs]
    simp only[e1,e2,bys_len,c1,c2,c3,c4,Bool.and_self,tft,tff,Int.toNat_natCast,bys_at _ hk8,obs,bit_at,hob,hset]
    rw[w64 (x:=(k:Int)-1) (by omega) (by omega),lo_ofN (b:=A / 2^k % 2) (by omega)]
    generalize hb:A / 2^k % 2=b at *
    by_cases hov:r+r<340282366920938463463374607431768211456
    · rw[if_pos hov]
      simp only[decide_true,Bool.not_true,tff]
      rw[r01_addN (n+1) hov (by omega),obs,if_pos (by omega)]
      simp only
      rw[r01_lessN (n+1) (by omega) hD,obs,tfn,tfd]
      by_cases hlt:r+r+b<D
      · rw[if_pos hlt]
        have:=ih f (2*q) (r+r+b) (by omega) (by rw[d2 (by omega)];omega) hlt (by omega)
        rw[eq0] at this
        exact this
      · obtain ⟨t1,t2⟩:=d1 (by omega)
        rw[if_neg hlt,r01_subN n (by omega) (by omega),obs]
        have:=ih f (2*q+1) (r+r+b-D) (by omega) (by rw[t1];omega) (by omega) (by omega)
        rw[eq1] at this
        exact this
    · rw[if_neg hov]
      simp only[show (decide ((1:Int)=0))=false from rfl,Bool.not_false,tft]
      obtain ⟨t1,t2⟩:=d1 (by omega)
      rw[r01_subN n hD (by omega),obs]
      simp only
      rw[r01_subN n (by omega) (by omega),obs]
      simp only
      rw[r01_addN (n+1) (by omega) (by omega),obs,if_pos (by omega)]
      simp only
      have:=ih f (2*q+1) (r-(D-r)+b) (by omega) (by rw[t1];omega) (by omega) (by omega)
      rw[eq1] at this
      exact this
theorem r02_whole (n:Nat) {A D:Nat} (hA:A<340282366920938463463374607431768211456) (hD:D<340282366920938463463374607431768211456):r02_Whole (n+4) (ofN A) (ofN D)=some (if D=0 then (ofN 0,ofN A) else (ofN (A / D),ofN (A % D))):=by
  rw[r02_Whole_eq,ofN_zero,tfd]
  by_cases h0:D=0
  · rw[if_pos h0,if_pos h0];rfl
  · obtain ⟨ra,ha,hla⟩:=r01_bytesN (n+2) hA
    rw[if_neg h0,if_neg h0,ha,obs]
    rw[show (decide (16=((((((((((((((((1+1)+1)+1)+1)+1)+1)+1)+1)+1)+1)+1)+1)+1)+1)+1) / 1)))=true from rfl,tft]
    have:=r02_whole_l7 n hA hD (by omega) (0,0) (0,0) 128 loopFuel 0 0 (Nat.le_refl _) (by rw[Nat.mul_zero];exact Nat.div_eq_of_lt hA) (by omega) (by unfold loopFuel;omega)
    rw[Nat.zero_mul,show bys 0=List.replicate 16 (0:Int) from rfl,←hla,show (((128:Nat):Int)-1)=127 from rfl,←zero_ofN] at this
    change obind (r02_Whole_l7 (n+3) loopFuel (ofN D,(0,0),(0,0),List.replicate 16 (0:Int),(0,0),l16 ra,127,())) _=_
    rw[this,obs,selim_inl]
    exact r01_ofL (n+2) (Nat.lt_of_le_of_lt (Nat.div_le_self _ _) hA) (fun r=>some (r,ofN (A % D))) rfl
def redV (x y:Nat):(Wd×Wd)×Int:=if y=0 then (((0,0),(0,0)),1) else ((ofN (x / Nat.gcd x y),ofN (y / Nat.gcd x y)),0)
theorem ratio_reduce (n:Nat) {x y:Nat} (hx:x<340282366920938463463374607431768211456) (hy:y<340282366920938463463374607431768211456):ratio_Reduce (n+5) (ofN x) (ofN y)=some (redV x y):=by
  rw[ratio_Reduce_eq,ratio_none_val,obs,tfd]
  unfold redV
  by_cases h:y=0
  · rw[if_pos h,if_pos h]
  · have hg:0<Nat.gcd x y:=Nat.gcd_pos_of_pos_right x (by omega)
    have hl:Nat.gcd x y<340282366920938463463374607431768211456:=Nat.lt_of_le_of_lt (Nat.gcd_le_right x (by omega)) hy
    rw[if_neg h,if_neg h,ratio_gcd n hx hy,obs,ratio_whole_val n hx hg hl,obs,ratio_whole_val n hy hg hl,obs]
def rateV (a:Wd) (ms:Int):(Wd×Wd)×Int :=
  if ms=0 then (((0,0),(0,0)),12) else if wv a*1000<340282366920938463463374607431768211456 then redV (wv a*1000).toNat ms.toNat else (((0,0),(0,0)),1)
theorem rate_parts {a:Wd} (ha:WdOk a) {ms:Int} (hm:0≤ms∧ms≤18446744073709551615) (h:wv a*1000<340282366920938463463374607431768211456):mkW (wv a*1000)=ofN (wv a*1000).toNat∧(wv a*1000).toNat<340282366920938463463374607431768211456∧(((0:Int),ms):Wd)=ofN ms.toNat∧ms.toNat<340282366920938463463374607431768211456:=by
  obtain ⟨h1,h2⟩:=wv_range ha
  have e:wv a*1000=(((wv a*1000).toNat:Nat):Int):=by omega
  refine ⟨?_,by omega,?_,by omega⟩
  · conv=>lhs;rw[e]
    exact mkW_nat _
  · rw[←lo_ofN (by omega)]
    congr 1;omega
theorem ratio_rate (n:Nat) {a:Wd} (ha:WdOk a) {ms:Int} (hm:0≤ms∧ms≤18446744073709551615):ratio_Rate (n+6) a ms=some (rateV a ms):=by
  rw[ratio_Rate_eq,tfd]
  unfold rateV
  by_cases h0:ms=0
  · rw[if_pos h0,if_pos h0]
  rw[if_neg h0,if_neg h0,wide_times (n+3) ha 1000 (by omega),obs]
  unfold timesW
  by_cases h:wv a*1000<340282366920938463463374607431768211456
  · obtain ⟨p1,p2,p3,p4⟩:=rate_parts ha hm h
    rw[if_pos h,if_pos h]
    simp only[decide_true,Bool.not_true,tff]
    rw[wide_of,obs,p1,p3,ratio_reduce n p2 p4,obs]
  · rw[if_neg h,if_neg h];rfl
section
variable {del:Ev×Unit→Option Bool} {p:Ev→Bool} {L:List Ev} (hd:∀x∈L,del (x,())=some (p x))
include hd
end
def WidP (w:Int):Prop:=1≤w∧w≤1099511627776
instance (w:Int):Decidable (WidP w):=by unfold WidP;infer_instance
def RngP (a b:Int):Prop:=0≤a∧b≤35184372088832∧a<b
instance (a b:Int):Decidable (RngP a b):=by unfold RngP;infer_instance
def spanV (a b w:Int):Int×(Int×Int):=if WidP w∧RngP a b then (if a % w=0∧b % w=0 then (a / w,(b / w,0)) else (0,(0,10))) else (0,(0,1))
theorem span_tail {w:Int} (a b:Int) (hw:WidP w) :
    (tif (decide (a<(0:Int))) (some ((0:Int),((0:Int),(1:Int)))) (
    tif (decide ((35184372088832:Int)<b)) (some ((0:Int),((0:Int),(1:Int)))) (
    tif (decide (b≤a)) (some ((0:Int),((0:Int),(1:Int)))) (
    tif (decide (w=(0:Int))) none (
    tif (!(decide ((Int.tmod a w)=(0:Int)))) (some ((0:Int),((0:Int),(10:Int)))) (
    tif (decide (w=(0:Int))) none (
    tif (!(decide ((Int.tmod b w)=(0:Int)))) (some ((0:Int),((0:Int),(10:Int)))) (
    tif (decide (w=(0:Int))) none (
    tif (decide (w=(0:Int))) none (
    some ((IntKind.wrap .i64 (Int.tdiv a w)),((IntKind.wrap .i64 (Int.tdiv b w)),(0:Int)))))))))))))=some (spanV a b w):=by
  obtain ⟨w1,w2⟩:=hw
  unfold spanV
  simp only[tfd,tfn]
  by_cases h:RngP a b
  · obtain ⟨h1,h2,h3⟩:=h
    have qa:0≤a / w∧a / w≤a:=⟨Int.ediv_nonneg h1 (by omega),Int.ediv_le_self _ h1⟩
    have qb:0≤b / w∧b / w≤b:=⟨Int.ediv_nonneg (by omega) (by omega),Int.ediv_le_self _ (by omega)⟩
    rw[if_neg (by omega),if_neg (by omega),if_neg (by omega),if_neg (by omega),if_pos (show WidP w∧RngP a b from ⟨⟨w1,w2⟩,h1,h2,h3⟩),tmod_nn h1,tmod_nn (show 0≤b by omega),tdiv_nn h1,tdiv_nn (show 0≤b by omega),w64 (by omega) (by omega),w64 (by omega) (by omega)]
    by_cases ha:a % w=0
    · rw[if_pos ha,if_neg (by omega)]
      by_cases hb:b % w=0
      · rw[if_pos hb,if_neg (by omega),if_neg (by omega),if_pos ⟨ha,hb⟩]
      · rw[if_neg hb,if_neg (fun k=>hb k.2)]
    · rw[if_neg ha,if_neg (fun k=>ha k.1)]
  · rw[if_neg (show ¬(WidP w∧RngP a b) from fun k=>h k.2)]
    by_cases h1:a<0
    · rw[if_pos h1]
    rw[if_neg h1]
    by_cases h2:35184372088832<b
    · rw[if_pos h2]
    rw[if_neg h2,if_pos (by unfold RngP at h;omega)]
theorem wi_span (n:Nat) (a b w:Int):wi_Span (n+3) a b w=some (spanV a b w):=by
  rw[wi_Span_eq,wi_width_eq,wi_in,obs,obs,tfn,tfd]
  by_cases h:WidP w
  · rw[if_pos (show 1≤w∧w≤1099511627776 from h)];exact span_tail a b h
  · rw[if_neg (show ¬(1≤w∧w≤1099511627776) from h)];unfold spanV;rw[if_neg (fun k=>h k.1)]
noncomputable def oneV (s:Sta) (k a b:Int):Int :=
  if (spanV a b (tierW s.1 k)).2.2=0 then (if (spanV a b (tierW s.1 k)).1<(oldV s.2.1 (tierW s.1 k) (tierN s.1 k)).1 then 11 else 0) else (spanV a b (tierW s.1 k)).2.2
theorem kept_ok {s:Sta} (h:StaOk s) {k:Int} (h0:0≤k) (h2:k≤2):keptV s k=((oldV s.2.1 (tierW s.1 k) (tierN s.1 k)).1,(s.2.1 / tierW s.1 k,0)):=by
  unfold keptV;rw[if_pos h,if_neg (by omega)]
theorem tier3 {t:Int} (h1:1≤t) (h3:t≤3):IntKind.wrap .i64 (t-1)=t-1:=w64 (by omega) (by omega)
theorem query_one_val (n:Nat) {s:Sta} (hw:StaW s) (h:StaOk s) {t:Int} (h1:1≤t) (h3:t≤3) (a b:Int):query_one (n+17) s t a b=some (oneV s (t-1) a b):=by
  rw[query_one_eq,tier3 h1 h3]
  have hk:=kept_ok h (k:=t-1) (by omega) (by omega)
  unfold oneV
  rcases (by omega:t=1∨t=2∨t=3) with e | e | e<;>subst e
  · rw[show ((1:Int)-1)=0 from rfl] at hk ⊢
    rw[decide_eq_true (show (0:Int)=0 from rfl),tft]
    change obind (wi_Span _ a b (tierW s.1 0)) _=_
    rw[wi_span (n+13),obs,tfn,tfd,csc_kept n hw 0,hk,obs]
    by_cases hs:(spanV a b (tierW s.1 0)).2.2=0
    · rw[if_pos hs,if_pos hs,decide_eq_true rfl,tft,tfd];split<;>rfl
    · rw[if_neg hs,if_neg hs]
  · rw[show ((2:Int)-1)=1 from rfl] at hk ⊢
    rw[decide_eq_false (show ¬((1:Int)=0) by decide),tff]
    rw[decide_eq_true (show (1:Int)=1 from rfl),tft]
    change obind (wi_Span _ a b (tierW s.1 1)) _=_
    rw[wi_span (n+13),obs,tfn,tfd,csc_kept n hw 1,hk,obs]
    by_cases hs:(spanV a b (tierW s.1 1)).2.2=0
    · rw[if_pos hs,if_pos hs,decide_eq_true rfl,tft,tfd];split<;>rfl
    · rw[if_neg hs,if_neg hs]
  · rw[show ((3:Int)-1)=2 from rfl] at hk ⊢
    rw[decide_eq_false (show ¬((2:Int)=0) by decide),tff]
    rw[decide_eq_false (show ¬((2:Int)=1) by decide),tff]
    rw[decide_eq_true (show (2:Int)=2 from rfl),tft]
    change obind (wi_Span _ a b (tierW s.1 2)) _=_
    rw[wi_span (n+13),obs,tfn,tfd,csc_kept n hw 2,hk,obs]
    by_cases hs:(spanV a b (tierW s.1 2)).2.2=0
    · rw[if_pos hs,if_pos hs,decide_eq_true rfl,tft,tfd];split<;>rfl
    · rw[if_neg hs,if_neg hs]
theorem span_why (a b w:Int):(spanV a b w).2.2=0∨(spanV a b w).2.2=1∨(spanV a b w).2.2=10:=by
  unfold spanV;split
  · split
    · exact .inl rfl
    · exact .inr (.inr rfl)
  · exact .inr (.inl rfl)
theorem one_why (s:Sta) (k a b:Int):oneV s k a b=0∨oneV s k a b=1∨oneV s k a b=10∨oneV s k a b=11:=by
  unfold oneV
  rcases span_why a b (tierW s.1 k) with h | h | h<;>rw[h]
  · rw[if_pos rfl];split
    · exact .inr (.inr (.inr rfl))
    · exact .inl rfl
  · exact .inr (.inl rfl)
  · exact .inr (.inr (.inl rfl))
noncomputable def whichV (s:Sta) (a b:Int):Nat→Int→Int→Int×Int
  | 0,_,why=>(0,why)
  | d+1,t,why=>if oneV s (t-1) a b=0 then (t,0) else if oneV s (t-1) a b=1 then (0,1) else whichV s a b d (t+1) (if oneV s (t-1) a b=11 then 11 else why)
theorem which_0 {s:Sta} {a b t:Int} (e:oneV s (t-1) a b=0) (d:Nat) (why:Int):whichV s a b (d+1) t why=(t,0):=by
  conv=>lhs;unfold whichV
  rw[if_pos e]
theorem which_1 {s:Sta} {a b t:Int} (e:oneV s (t-1) a b=1) (d:Nat) (why:Int):whichV s a b (d+1) t why=(0,1):=by
  conv=>lhs;unfold whichV
  rw[if_neg (by omega),if_pos e]
theorem which_10 {s:Sta} {a b t:Int} (e:oneV s (t-1) a b=10) (d:Nat) (why:Int):whichV s a b (d+1) t why=whichV s a b d (t+1) why:=by
  conv=>lhs;unfold whichV
  rw[if_neg (by omega),if_neg (by omega),if_neg (by omega)]
theorem which_11 {s:Sta} {a b t:Int} (e:oneV s (t-1) a b=11) (d:Nat) (why:Int):whichV s a b (d+1) t why=whichV s a b d (t+1) 11:=by
  conv=>lhs;unfold whichV
  rw[if_neg (by omega),if_neg (by omega),if_pos e]
theorem query_which_l3 (n:Nat) {s:Sta} (hw:StaW s) (h:StaOk s) (a b:Int):∀(d f:Nat) (t why:Int),1≤t→t+d=4→d<f →
    query_whichever_l3 (n+17) f (a,b,s,why,t,())=some (if (whichV s a b d t why).2=0 then .inr (whichV s a b d t why) else if (whichV s a b d t why).2=1 then .inr (whichV s a b d t why) else .inl ((whichV s a b d t why).2,()))∨(why≠10∧why≠11):=by
  intro d
  induction d with
  | zero =>
    intro f t why h1 ht hf
    obtain ⟨f,rfl⟩:∃g,f=g+1:=⟨f-1,by omega⟩
    by_cases hy:why≠10∧why≠11
    · exact .inr hy
    refine .inl ?_
    rw[query_whichever_l3_eq,decide_eq_false (by omega),tff]
    unfold whichV
    rw[if_neg (by simp only;omega),if_neg (by simp only;omega)]
  | succ d ih =>
    intro f t why h1 ht hf
    obtain ⟨f,rfl⟩:∃g,f=g+1:=⟨f-1,by omega⟩
    by_cases hy:why≠10∧why≠11
    · exact .inr hy
    refine .inl ?_
    rw[query_whichever_l3_eq,decide_eq_true (by omega),tft,query_one_val n hw h h1 (by omega),obs,w64 (by omega) (by omega)]
    simp only[tfd]
    rcases one_why s (t-1) a b with e | e | e | e
    · rw[which_0 e,e,if_pos rfl,if_pos rfl]
    · rw[which_1 e,e,if_neg (by decide),if_neg (by decide),if_neg (by decide),if_neg (by decide),if_pos rfl]
    · rw[which_10 e,e,if_neg (by decide),if_pos rfl]
      exact (ih f (t+1) why (by omega) (by omega) (by omega)).resolve_right hy
    · rw[which_11 e,e,if_neg (by decide),if_neg (by decide),if_pos rfl]
      exact (ih f (t+1) 11 (by omega) (by omega) (by omega)).resolve_right (by decide)
theorem query_which (n:Nat) {s:Sta} (hw:StaW s) (h:StaOk s) (a b:Int):query_whichever (n+18) s a b=some (whichV s a b 3 1 10):=by
  rw[query_whichever_eq]
  change obind (query_whichever_l3 (n+17) loopFuel (a,b,s,10,1,())) _=_
  rw[(query_which_l3 n hw h a b 3 loopFuel 1 10 (by decide) rfl (by unfold loopFuel;omega)).resolve_right (by decide),obs]
  split
  · rfl
  · split
    · rfl
    · rename_i h0 h1
      rw[selim_inl]
      have hz:(whichV s a b 3 1 10).1=0:=by
        have key:∀(d:Nat) (t why:Int),(whichV s a b d t why).2≠0→(whichV s a b d t why).1=0:=by
          intro d
          induction d with
          | zero=>intro t why _;rfl
          | succ d ih =>
            intro t why
            unfold whichV
            split
            · intro k;exact absurd rfl k
            · split
              · intro _;rfl
              · exact ih _ _
        exact key 3 1 10 h0
      exact congrArg some (Prod.ext hz.symm rfl)
noncomputable def tierV (s:Sta) (t a b:Int):Int×Int :=
  if StaOk s then (if t<0∨3<t then (0,1) else if t=0 then whichV s a b 3 1 10 else if oneV s (t-1) a b=0 then (t,0) else (0,oneV s (t-1) a b)) else (0,2)
theorem query_tier (n:Nat) {s:Sta} (hw:StaW s) (t a b:Int):query_Tier (n+19) s t a b=some (tierV s t a b):=by
  rw[query_Tier_eq,stt_check (n+4) hw,obs,tfn,tfd]
  unfold tierV
  by_cases h:StaOk s
  case neg=>rw[if_neg h,if_neg h];rfl
  rw[if_pos h,if_pos h,if_pos rfl]
  simp only[tfd,tfn]
  by_cases h0:t<0
  · rw[if_pos h0,if_pos (.inl h0)]
  by_cases h3:3<t
  · rw[if_neg h0,if_pos h3,if_pos (.inr h3)]
  rw[if_neg h0,if_neg h3,if_neg (show ¬(t<0∨3<t) by omega)]
  by_cases hz:t=0
  · rw[if_pos hz,if_pos hz,query_which n hw h,obs]
  · rw[if_neg hz,if_neg hz,query_one_val (n+1) hw h (by omega) (by omega),obs]
    by_cases ho:oneV s (t-1) a b=0
    · rw[if_pos ho,if_pos ho]
    · rw[if_neg ho,if_neg ho]
def rateC (c:Cel):(Wd×Wd)×Int:=if c.2.2.2.2.2.2<1 then (((0,0),(0,0)),12) else rateV c.2.2.2.1 c.2.2.2.2.2.2
theorem query_rate (n:Nat) {c:Cel} (hw:WdOk c.2.2.2.1) (hs:c.2.2.2.2.2.2≤9223372036854775807):query_Rate (n+7) c=some (rateC c):=by
  rw[query_Rate_eq,tfd]
  unfold rateC
  by_cases h:c.2.2.2.2.2.2<1
  · rw[if_pos h,if_pos h]
  · rw[if_neg h,if_neg h,wu64 (by omega) (by omega),ratio_rate n hw ⟨by omega,by omega⟩,obs]
theorem ser_rangeK (n:Nat) (c:Conf) {s:Ser} (hw:SerW s) {k:Int} (h0:0≤k) (h2:k≤2) (i j:Int):series_Range (n+22) c s k i j=some (rangeK c s k i j):=by
  unfold rangeK
  rcases (by omega:k=0∨k=1∨k=2) with e | e | e
  · subst e;rw[if_pos rfl];exact series_range0 n c hw i j
  · subst e;rw[if_neg (by decide),if_pos rfl];exact series_range1 n c hw i j
  · subst e;rw[if_neg (by decide),if_neg (by decide)];exact series_range2 n c hw i j
theorem span_ok {a b w:Int} (h:(spanV a b w).2.2=0):WidP w∧RngP a b∧a % w=0∧b % w=0∧spanV a b w=(a / w,(b / w,0))∧0≤a / w∧a / w≤b / w:=by
  unfold spanV at h ⊢
  split at h
  · rename_i h1
    split at h
    · rename_i h2
      rw[if_pos h1,if_pos h2]
      exact ⟨h1.1,h1.2,h2.1,h2.2,rfl,Int.ediv_nonneg h1.2.1 (by have:=h1.1.1;omega),Int.ediv_le_ediv (by have:=h1.1.1;omega) (Int.le_of_lt h1.2.2.2)⟩
    · cases h
  · cases h
theorem one_ok {s:Sta} {k a b:Int} (h:oneV s k a b=0):(spanV a b (tierW s.1 k)).2.2=0∧(oldV s.2.1 (tierW s.1 k) (tierN s.1 k)).1≤(spanV a b (tierW s.1 k)).1:=by
  unfold oneV at h
  split at h
  · rename_i h1
    split at h
    · cases h
    · exact ⟨h1,by omega⟩
  · rename_i h1;exact absurd h h1
theorem which_ok {s:Sta} {a b:Int}:∀(d:Nat) (t why:Int),why≠0→(whichV s a b d t why).2=0→t≤(whichV s a b d t why).1∧(whichV s a b d t why).1<t+d∧oneV s ((whichV s a b d t why).1-1) a b=0:=by
  intro d
  induction d with
  | zero=>intro t why hw h;exact absurd h hw
  | succ d ih =>
    intro t why hw h
    rcases one_why s (t-1) a b with e | e | e | e
    · rw[which_0 e];exact ⟨by simp only;omega,by simp only;omega,e⟩
    · rw[which_1 e] at h;cases h
    · rw[which_10 e] at h ⊢
      obtain ⟨h1,h2,h3⟩:=ih (t+1) why hw h
      exact ⟨by omega,by omega,h3⟩
    · rw[which_11 e] at h ⊢
      obtain ⟨h1,h2,h3⟩:=ih (t+1) 11 (by decide) h
      exact ⟨by omega,by omega,h3⟩
theorem tier_ok {s:Sta} {t a b:Int} (h:(tierV s t a b).2=0):StaOk s∧1≤(tierV s t a b).1∧(tierV s t a b).1≤3∧oneV s ((tierV s t a b).1-1) a b=0∧0≤t∧t≤3∧(1≤t→(tierV s t a b).1=t):=by
  unfold tierV at h ⊢
  by_cases hs:StaOk s
  case neg=>rw[if_neg hs] at h;cases h
  rw[if_pos hs] at h ⊢
  by_cases h1:t<0∨3<t
  · rw[if_pos h1] at h;cases h
  rw[if_neg h1] at h ⊢
  by_cases h0:t=0
  · rw[if_pos h0] at h ⊢
    obtain ⟨k1,k2,k3⟩:=which_ok 3 1 10 (by decide) h
    exact ⟨hs,k1,by omega,k3,by omega,by omega,by omega⟩
  · rw[if_neg h0] at h ⊢
    by_cases ho:oneV s (t-1) a b=0
    · rw[if_pos ho];exact ⟨hs,by simp only;omega,by simp only;omega,ho,by omega,by omega,fun _=>rfl⟩
    · rw[if_neg ho] at h;exact absurd h ho
noncomputable def cellQ (s:Sta) (l:List Lab) (k a b:Int):Cel :=
  match findV s l with
  | some i=>(rangeK s.1 ((s.2.2.2[i]?).getD ser0) k (a / tierW s.1 k) (b / tierW s.1 k)).1
  | none=>z0
theorem found {s:Sta} (hs:StaOk s) {l:List Lab} {i:Nat} (h:findV s l=some i):∃x,s.2.2.2[i]? = some x∧x.1=l∧LvX s x∧SerOk s.1 x:=by
  obtain ⟨x,hx,h1,h2,_⟩:=findV_some.1 h
  exact ⟨x,hx,h1,h2,(live_ok hs (List.mem_of_getElem? hx) h2).1⟩
theorem query_of_val (n:Nat) {s:Sta} (hw:StaW s) (hs:StaOk s) {q:List Lab×(Int×(Int×Int))} {k:Int} (h0:0≤k) (h2:k≤2) (ho:oneV s k q.2.2.1 q.2.2.2=0):query_of (n+23) s q k=some (cellQ s q.1 k q.2.2.1 q.2.2.2,0):=by
  obtain ⟨l,t,a,b⟩:=q
  simp only at ho ⊢
  rw[query_of_eq]
  simp only
  rw[stt_find (n+12) hw l,obs,tfn,tfd]
  unfold cellQ
  cases hf:findV s l with
  | none=>rw[findR_none hs.whole hf,if_neg (show ¬((3:Int)=0) by decide)];rfl
  | some i =>
    obtain ⟨x,hx,hxl,hlv,hok⟩:=found hs hf
    obtain ⟨s1,s2⟩:=one_ok ho
    obtain ⟨_,_,_,_,e,e1,e2⟩:=span_ok s1
    have hfine:=rangeK_fine hok k e1 e2
    rw[findR_some hs.whole hf,if_pos rfl]
    simp only[hx,Option.getD_some]
    have fin:∀(x':Ser),x'=x→obind (series_Range (n+22) s.1 x' k (a / tierW s.1 k) (b / tierW s.1 k)) (fun r=>some r)=some ((rangeK s.1 x k (a / tierW s.1 k) (b / tierW s.1 k)).1,0):=by
      rintro x' rfl
      rw[ser_rangeK n s.1 (hw.at hx).1 h0 h2,obs]
      exact congrArg some (Prod.ext rfl hfine)
    rcases (by omega:k=0∨k=1∨k=2) with ek | ek | ek<;>subst ek
    · rw[decide_eq_true rfl,tft]
      change obind (wi_Span (n+22) a b (tierW s.1 0)) _=_
      rw[wi_span (n+19),obs,e]
      simp only[decide_true,Bool.not_true,tff]
      rw[at_el hx,obs]
      exact fin x rfl
    · rw[decide_eq_false (show ¬((1:Int)=0) by decide),tff,decide_eq_true rfl,tft]
      change obind (wi_Span (n+22) a b (tierW s.1 1)) _=_
      rw[wi_span (n+19),obs,e]
      simp only[decide_true,Bool.not_true,tff]
      rw[at_el hx,obs]
      exact fin x rfl
    · rw[decide_eq_false (show ¬((2:Int)=0) by decide),tff,decide_eq_false (show ¬((2:Int)=1) by decide),tff,decide_eq_true rfl,tft]
      change obind (wi_Span (n+22) a b (tierW s.1 2)) _=_
      rw[wi_span (n+19),obs,e]
      simp only[decide_true,Bool.not_true,tff]
      rw[at_el hx,obs]
      exact fin x rfl
theorem mrgE_okc (a b:Cel):CellOk (mrgE a b).1:=by
  unfold mrgE
  split
  · rename_i h
    split
    · rename_i ha;exact mrg_ok h.1 h.2 ha
    · exact ok_z0
  · exact ok_z0
theorem rangeV_okc (ok:Prop) [Decidable ok] (i j last w:Int) (t:List Slo) (now:Cel×Int):CellOk (rangeV ok i j last w t now).1:=by
  unfold rangeV
  split
  · split
    · exact ok_z0
    split
    · exact ok_z0
    split
    · exact ok_z0
    split
    · exact tfold_okc _ _ _
    split
    · exact tfold_okc _ _ _
    split
    · exact ok_z0
    · exact mrgE_okc _ _
  · exact ok_z0
theorem rangeK_okc (c:Conf) (s:Ser) (k i j:Int):CellOk (rangeK c s k i j).1:=by
  unfold rangeK
  split
  · exact rangeV_okc _ _ _ _ _ _ _
  split
  · exact rangeV_okc _ _ _ _ _ _ _
  · exact rangeV_okc _ _ _ _ _ _ _
theorem cellQ_ok (s:Sta) (l:List Lab) (k a b:Int):CellOk (cellQ s l k a b):=by
  unfold cellQ
  split
  · exact rangeK_okc _ _ _ _ _
  · exact ok_z0
theorem cellOk_rate {c:Cel} (h:CellOk c):WdOk c.2.2.2.1∧c.2.2.2.2.2.2≤9223372036854775807:=by
  rcases h with rfl | h
  · exact ⟨⟨by simp[z0],by simp[z0]⟩,by simp[z0]⟩
  · have h1:=h.s1;have h2:=h.l.t1;have h3:=h.f.t0
    exact ⟨h.w,by omega⟩
abbrev zr:Int×(Cel×((Wd×Wd)×Int)):=(0,(z0,(((0,0),(0,0)),0)))
noncomputable def doQ (s:Sta) (l:List Lab) (t a b:Int):(Int×(Cel×((Wd×Wd)×Int)))×Int :=
  if StaOk s then (if LabOk l then (if (tierV s t a b).2=0 then (((tierV s t a b).1,(cellQ s l ((tierV s t a b).1-1) a b,rateC (cellQ s l ((tierV s t a b).1-1) a b))),0) else (zr,(tierV s t a b).2)) else (zr,8)) else (zr,2)
theorem query_may_val (n:Nat) {s:Sta} (hw:StaW s) (l:List Lab):query_may (n+15) s l=some (if StaOk s then (if LabOk l then 0 else 8) else 2):=by
  rw[query_may_eq,stt_check n hw,obs,tfn,tfd]
  by_cases h:StaOk s
  · rw[if_pos h,if_pos h,if_pos rfl,label_check (n+8) l,obs]
  · rw[if_neg h,if_neg h,if_neg (by decide)]
theorem query_do (n:Nat) {s:Sta} (hw:StaW s) (q:List Lab×(Int×(Int×Int))):query_Do (n+24) s q=some (doQ s q.1 q.2.1 q.2.2.1 q.2.2.2):=by
  rw[query_Do_eq,query_may_val (n+8) hw,obs,tfn,tfd]
  unfold doQ
  by_cases h:StaOk s
  case neg=>rw[if_neg h,if_neg h,if_neg (by decide)];rfl
  rw[if_pos h,if_pos h]
  by_cases hl:LabOk q.1
  case neg=>rw[if_neg hl,if_neg hl,if_neg (by decide)];rfl
  rw[if_pos hl,if_pos hl,if_pos rfl,query_tier (n+4) hw,obs,tfn,tfd]
  by_cases ht:(tierV s q.2.1 q.2.2.1 q.2.2.2).2=0
  case neg=>rw[if_neg ht,if_neg ht];rfl
  obtain ⟨_,t1,t3,ho,_⟩:=tier_ok ht
  have hr:=cellOk_rate (cellQ_ok s q.1 ((tierV s q.2.1 q.2.2.1 q.2.2.2).1-1) q.2.2.1 q.2.2.2)
  rw[if_pos ht,if_pos ht,w64 (by omega) (by omega),query_of_val n hw h (by omega) (by omega) ho,obs]
  simp only[decide_true,Bool.not_true,tff]
  rw[query_rate (n+16) hr.1 hr.2,obs]
theorem ask_labs {q:List Lab×(Int×(Int×Int))} (h:Wf tyAsk q):q.1.length≤9223372036854775807:=h.1.1
theorem index_own (n:Nat) {c:Conf} (h:OkC c):conf_Index (n+4) c=some (idxC c):=by
  have hl:=h.rng.log
  rw[conf_Index_eq,check_ok n h]
  simp only[obs,tfd,tfn]
  rw[if_pos trivial,parts_val (n+2) _ 120 (by omega) (by omega) (by omega) (by omega)]
  rfl
theorem home_own (n:Nat) {c:Conf} (h:OkC c):conf_Home (n+5) c=some (hom c):=by
  have hl:=h.rng.log
  have hi:=idx_range h.rng
  rw[conf_Home_eq,check_ok (n+1) h,index_own n h]
  simp only[obs,tfd,tfn]
  rw[if_pos trivial,w64 (x:=1+idxC c) (by omega) (by omega),w64 (by omega) (by omega)]
  rfl
theorem place_own (n:Nat) {c:Conf} (h:OkC c):conf_Place (n+4) c=some (plc c):=by
  rw[conf_Place_eq,check_ok n h,place_val (n+1) h.rng]
  simp only[obs,tfd,tfn]
  rw[if_pos trivial]
theorem size_own (n:Nat) {c:Conf} (h:OkC c):conf_Size (n+6) c=some (sizR c):=by
  obtain ⟨e,_⟩:=siz_wrap h
  rw[conf_Size_eq,check_ok (n+2) h,home_own n h,place_own (n+1) h]
  simp only[obs,tfd,tfn,e]
  rw[if_pos trivial]
  unfold sizR
  by_cases hs:16777216<siz c
  · rw[if_pos hs,if_pos hs]
  · rw[if_neg hs,if_neg hs]
theorem size_own_no (n:Nat) {c:Conf} (h:¬OkC c):conf_Size (n+6) c=some (0,2):=by
  rw[conf_Size_eq,check_no (n+2) h]
  simp only[obs,tfd,tfn]
  rw[if_neg (by decide)]
theorem stt_new_own (n:Nat) (c:Conf):stt_New (n+7) c=some (newSt c):=by
  rw[stt_New_eq]
  unfold newSt
  by_cases h:OkC c
  case neg=>rw[size_own_no n h,if_neg h];rfl
  rw[size_own n h,if_pos h,obs,tfn,tfd]
  by_cases h1:(sizR c).2=0
  · rw[if_pos h1,if_pos h1,cap_test h];rfl
  · rw[if_neg h1,if_neg h1];rfl
end Go.Proofs.YtjeabebacegikaaGreatDoor
namespace Go.Proofs.YtjeabebacegikaaGreatDoor
open Go.Flat
theorem ob {α β:Type} {o:Option α} {x:α} {f:α→Option β} {r:Option β} (h:o=some x) (k:f x=r):obind o f=r:=by rw[h];exact k
theorem tt {α:Type} {b:Bool} {x y r:α} (h:b=true) (k:x=r):tif b x y=r:=by rw[h];exact k
theorem tf {α:Type} {b:Bool} {x y r:α} (h:b=false) (k:y=r):tif b x y=r:=by rw[h];exact k
end Go.Proofs.YtjeabebacegikaaGreatDoor
namespace Go.Proofs.YtjeabebacegikaaGreatDoor
open Go.Flat
set_option linter.unusedVariables false
end Go.Proofs.YtjeabebacegikaaGreatDoor
namespace Go.Proofs.YtjeabebacegikaaGreatDoor
open Go.Flat Go.Plim
set_option linter.unusedVariables false
set_option linter.unusedSimpArgs false
theorem serW_put {c:Conf} {s t:Ser} {e:Ev} (h:SerOk c s) (hp:putE c s e=(t,0)):SerW t∧SerM t:=by
  obtain ⟨q1,q2,q3,q4,q5⟩:=serOk_put h hp
  have hc:=q1.fold.cok.rng
  refine ⟨⟨?_,fun x hx=>EvW.of (q1.raw.f.ok x hx),q1.fold.w,?_⟩,?_⟩
  · have:=q2.t0;have:=q2.t1;rw[q4];unfold I64;omega
  · rcases q1.st with ⟨_,k⟩ | ⟨_,k⟩
    · rw[k.opn];exact slow_s0
    · have:=k.fit.i0
      exact ⟨by unfold I64;omega,.of k.fit.n.ok⟩
  · have l1:=q1.lab.n1;have l2:=q1.raw.len;have l3:=q1.raw.m1
    have:=q1.fold.lens
    exact ⟨by omega,by omega,by omega,by omega,by omega⟩
theorem write_w {s t:Sta} (hw:StaW s) {l:List Lab} {e:Ev} {v:Int} (h:writeV s l e=(t,v)):StaW t:=by
  by_cases hv:v=0
  · subst hv
    obtain ⟨hg,i,x,b,y,hp,hput,rfl,_⟩:=write_ok h
    obtain ⟨p1,p2,p3,p4⟩:=place_ok hg hp
    have hy:=serW_put p1 hput
    refine ⟨by simpa [setS] using hw.len,fun z hz => ?_⟩
    rcases List.mem_or_eq_of_mem_set hz with k | k
    · exact hw.ser z k
    · rw[k];exact hy
  · have:t=sta0:=by
      unfold writeV at h
      split at h
      · exact (congrArg Prod.fst h).symm
      · split at h
        · exact (congrArg Prod.fst h).symm
        · exact absurd (congrArg Prod.snd h).symm hv
    rw[this];exact sta0_w
theorem writeV_w {s:Sta} (hw:StaW s) (l:List Lab) (e:Ev):StaW (writeV s l e).1:=write_w hw (v:=(writeV s l e).2) rfl
structure StaInv (N:Nat) (s:Sta):Prop where
  ok:StaOk s
  w:StaW s
  ser:∀x∈s.2.2.2,x=ser0∨∃l,SerInv s.1 x l∧l≠[]∧l.length≤N
theorem inv_new {c:Conf} (h:(newSt c).2=0):StaInv 0 (newSt c).1:=by
  refine ⟨(newSt_ok h).1,newSt_w c,fun x hx => .inl ?_⟩
  unfold newSt at h hx
  split at hx
  · split at hx
    · exact List.eq_of_mem_replicate hx
    · rename_i h1 h2;rw[if_pos h1,if_neg h2] at h;exact absurd h h2
  · simp[sta0] at hx
theorem inv_mono {N M:Nat} {s:Sta} (h:StaInv N s) (hm:N≤M):StaInv M s :=
  ⟨h.ok,h.w,fun x hx=>(h.ser x hx).imp id fun ⟨l,h1,h2,h3⟩=>⟨l,h1,h2,Nat.le_trans h3 hm⟩⟩
theorem inv_tick {N:Nat} {s:Sta} (h:StaInv N s) (now:Int):StaInv N (tickV s now).1:=by
  refine ⟨?_,tickV_w h.w now,?_⟩
  · unfold tickV
    split
    · rename_i hm;exact tick_ok hm
    · exact h.ok
  · unfold tickV
    split
    · exact h.ser
    · exact h.ser
theorem inv_put {N:Nat} {c:Conf} {x y:Ser} {l:List Ev} {e:Ev} (h:SerInv c x l) (hN:l.length≤N) (hb:N<1000000) (hp:putE c x e=(y,0)):∃l',SerInv c y l'∧l'≠[]∧l'.length≤N+1:=by
  have hf:=put_foll (e:=e) h (by rw[hp])
  obtain ⟨s',h1,h2⟩:=serInv_next h hf (by omega)
  rw[hp] at h1
  injection h1 with h1 _
  subst h1
  exact ⟨l++[e],h2,by simp,by simp;omega⟩
theorem inv_write {N:Nat} {s:Sta} (h:StaInv N s) (hb:N<1000000) (l:List Lab) (e:Ev):StaInv (N+1) (if (writeV s l e).2=0 then (writeV s l e).1 else s):=by
  by_cases h0:(writeV s l e).2=0
  case neg=>rw[if_neg h0];exact inv_mono h (Nat.le_succ N)
  rw[if_pos h0]
  have hw:writeV s l e=((writeV s l e).1,0):=Prod.ext rfl h0
  have hww:=writeV_w h.w l e
  generalize (writeV s l e).1=t at *
  refine ⟨staOk_write hw,hww,?_⟩
  obtain ⟨hg,i,x,b,y,hp,hput,rfl,_⟩:=write_ok hw
  intro z hz
  rcases List.mem_or_eq_of_mem_set hz with k | k
  · exact (h.ser z k).imp id fun ⟨l,h1,h2,h3⟩=>⟨l,h1,h2,by omega⟩
  · subst k
    right
    cases hp with
    | found hf hx hl hlv ht =>
      obtain ⟨l0,h1,_,h3⟩:=(h.ser x (List.mem_of_getElem? hx)).resolve_left hlv.1
      exact inv_put h1 h3 hb hput
    | room hf hs hr=>exact inv_put (new_inv hg.st.whole.1 hg.lab) (by simp) hb hput
theorem inv_rangeK {c:Conf} {x:Ser} {l:List Ev} (h:SerInv c x l) (hl:l≠[]) {k i j:Int} (hk0:0≤k) (hk2:k≤2) (h0:0≤i) (hij:i≤j) (hk:x.2.1 / tierW c k<i+tierN c k):rangeK c x k i j=(cellOf (rng (tierW c k) l i j),0):=by
  unfold rangeK
  rcases (by omega:k=0∨k=1∨k=2) with e | e | e
  · subst e;rw[if_pos rfl];exact inv_range0 h hl h0 hij hk
  · subst e;rw[if_neg (by decide),if_pos rfl];exact inv_range1 h hl h0 hij hk
  · subst e;rw[if_neg (by decide),if_neg (by decide)];exact inv_range2 h hl h0 hij hk
theorem last_le {s:Sta} (hs:StaOk s) {i:Nat} {x:Ser} (hx:s.2.2.2[i]? = some x) (hn:x≠ser0) {k:Int} (h0:0≤k) (h2:k≤2):x.2.1 / tierW s.1 k≤s.2.1 / tierW s.1 k:=by
  obtain ⟨_,r1,r2,_⟩:=(hs.right i x hx).resolve_left hn
  have hc:=hs.whole.1
  have hr:=hc.rng
  have w0:=hr.w0.1;have w1:=hr.w1.1;have w2:=hr.w2.1
  have b0:x.2.1 / s.1.2.1.1≤s.2.1 / s.1.2.1.1:=by
    have:x.2.1<(s.2.1 / s.1.2.1.1+1)*s.1.2.1.1:=by rw[Int.add_mul,Int.one_mul];exact r2
    have:=Int.ediv_lt_of_lt_mul (by omega) this
    omega
  have b1:x.2.1 / s.1.2.1.2.1≤s.2.1 / s.1.2.1.2.1:=by
    rw[←(edvm (t:=x.2.1) w0 w1 hc.m1).2,←(edvm (t:=s.2.1) w0 w1 hc.m1).2]
    exact Int.ediv_le_ediv (factor_pos w0 w1 hc.m1) b0
  have b2:x.2.1 / s.1.2.1.2.2≤s.2.1 / s.1.2.1.2.2:=by
    rw[←(edvm (t:=x.2.1) w1 w2 hc.m2).2,←(edvm (t:=s.2.1) w1 w2 hc.m2).2]
    exact Int.ediv_le_ediv (factor_pos w1 w2 hc.m2) b1
  rcases (by omega:k=0∨k=1∨k=2) with e | e | e<;>subst e
  · exact b0
  · exact b1
  · exact b2
theorem kept_lt {s:Sta} (hs:StaOk s) {i:Nat} {x:Ser} (hx:s.2.2.2[i]? = some x) (hn:x≠ser0) {k a b:Int} (h0:0≤k) (h2:k≤2) (ho:oneV s k a b=0):x.2.1 / tierW s.1 k<a / tierW s.1 k+tierN s.1 k:=by
  have hl:=last_le hs hx hn h0 h2
  obtain ⟨s1,s2⟩:=one_ok ho
  obtain ⟨_,_,_,_,e,e1,e2⟩:=span_ok s1
  obtain ⟨r1,r2,r3,r4⟩:=tier_rng hs.whole.1 k
  have ht:=hs.clock.1
  rw[e] at s2
  unfold oldV at s2
  rw[if_pos (show OfP s.2.1 (tierW s.1 k)∧1≤tierN s.1 k∧tierN s.1 k≤4096 from ⟨⟨ht.1,ht.2,r1,r2⟩,r3,r4⟩)] at s2
  simp only at s2
  split at s2<;>omega
theorem fuel_succ {d f:Nat} (h:d<f):∃g,f=g+1:=⟨f-1,by omega⟩
def Fd (o:Int) (r:Int×Int) (a b:List Slo):Prop:=a.length=b.length∧∀j:Nat,a[j]? = b[j]? ∨ (a[j]? = some s0∧∃s,b[j]? = some s∧s≠s0∧¬KeepP o r s)
theorem Fd.refl (o r) (a:List Slo):Fd o r a a:=⟨rfl,fun _ => .inl rfl⟩
theorem Fd.mono {o o':Int} {r} {a b:List Slo} (h:Fd o r a b) (ho:o≤o'):Fd o' r a b :=
  ⟨h.1,fun j=>(h.2 j).imp id fun ⟨h1,s,h2,h3,h4⟩=>⟨h1,s,h2,h3,fun k=>h4 fun q=>k ⟨by have:=q.1;omega,q.2⟩⟩⟩
theorem Fd.fade {o r} {a b:List Slo} (h:Fd o r a b):Fd o r (fadeT o r a) b:=by
  refine ⟨by rw[fadeT_len];exact h.1,fun j => ?_⟩
  unfold fadeT
  rw[List.getElem?_map]
  rcases h.2 j with k | ⟨k,s,k2,k3⟩
  · rw[k]
    cases hb:b[j]? with
    | none=>exact .inl rfl
    | some s =>
      simp only[Option.map_some]
      by_cases q:KeepP o r s
      · rw[if_pos q];exact .inl rfl
      · rw[if_neg q]
        by_cases z:s=s0
        · rw[z];exact .inl rfl
        · exact .inr ⟨rfl,s,rfl,z,q⟩
  · rw[k]
    simp only[Option.map_some]
    refine .inr ⟨?_,s,k2,k3⟩
    split<;>rfl
theorem Fd.put {o r} {a b:List Slo} (h:Fd o r a b) (i:Int) (c:Cel):Fd o r (tput a i c) (tput b i c):=by
  unfold tput
  refine ⟨by simp[h.1],fun j => ?_⟩
  rw[h.1,List.getElem?_set,List.getElem?_set,h.1]
  split
  · exact .inl rfl
  · exact h.2 j
theorem Fd.up {o:Int} {r r':Int×Int} {a b:List Slo} {w:Int} (h:Fd o r a b) (hb:TierOk b w) (hn:NoBehind b r.2) (hr:r.1≤r'.1):Fd o r' a b:=by
  refine ⟨h.1,fun j=>(h.2 j).imp id fun ⟨h1,s,h2,h3,h4⟩=>⟨h1,s,h2,h3,fun k=>h4 fun q=>k ⟨q.1,.inl ?_⟩⟩⟩
  rcases q.2 with q | q
  · omega
  · obtain ⟨_,hf⟩:=(hb.s j s h2).resolve_left h3
    have:=hn s (List.mem_of_getElem? h2) (by have:=hf.n.n1;omega)
    omega
theorem up_ext:∀ {A B:List Slo},Up A→Up B→(∀s,s∈A↔s∈B)→A=B:=by
  intro A
  induction A with
  | nil =>
    intro B _ _ h
    cases B with
    | nil=>rfl
    | cons b B=>exact absurd ((h b).2 (by simp)) (by simp)
  | cons a A ih =>
    intro B ha hb h
    cases B with
    | nil=>exact absurd ((h a).1 (by simp)) (by simp)
    | cons b B =>
      have ha':=ha;have hb':=hb
      unfold Up at ha hb
      rw[List.pairwise_cons] at ha hb
      have e:a=b:=by
        rcases List.mem_cons.1 ((h a).1 (by simp)) with k | k
        · exact k
        · rcases List.mem_cons.1 ((h b).2 (by simp)) with q | q
          · exact q.symm
          · have:=ha.1 b q;have:=hb.1 a k;omega
      subst e
      rw[ih ha.2 hb.2 (fun s => ?_)]
      constructor
      · intro k
        rcases List.mem_cons.1 ((h s).1 (by simp[k])) with q | q
        · have:=ha.1 s k;rw[q] at this;omega
        · exact q
      · intro k
        rcases List.mem_cons.1 ((h s).2 (by simp[k])) with q | q
        · have:=hb.1 s k;rw[q] at this;omega
        · exact q
theorem Fd.tfold {o r} {a b:List Slo} {w i j:Int} (h:Fd o r a b) (ha:TierOk a w) (hb:TierOk b w) (hk:o≤i∨r.1≤i∧j≤r.2):tfold a i j=tfold b i j:=by
  have e:within a i j=within b i j:=by
    unfold within
    refine congrArg _ (up_ext ((tall_up ha).filter _) ((tall_up hb).filter _) fun s => ?_)
    rw[List.mem_filter,List.mem_filter,mem_tall,mem_tall]
    simp only[decide_eq_true_eq]
    constructor
    · rintro ⟨⟨h1,h2⟩,h3⟩
      obtain ⟨n,hn⟩:=List.getElem?_of_mem h1
      rcases h.2 n with k | ⟨k,_⟩
      · exact ⟨⟨List.mem_of_getElem? (by rw[←k];exact hn),h2⟩,h3⟩
      · rw[hn] at k;injection k with k;exact absurd k h2
    · rintro ⟨⟨h1,h2⟩,h3,h4⟩
      obtain ⟨n,hn⟩:=List.getElem?_of_mem h1
      rcases h.2 n with k | ⟨k,s',k2,k3,k4⟩
      · exact ⟨⟨List.mem_of_getElem? (by rw[k];exact hn),h2⟩,h3,h4⟩
      · exfalso
        rw[hn] at k2;injection k2 with k2
        subst k2
        exact k4 fun q=>by have:=q.1;rcases q.2 with q | q<;>omega
  unfold Go.Plim.tfold
  rw[e]
structure Fad (c:Conf) (o:Int×(Int×Int)) (x y:Ser):Prop where
  lab:x.1=y.1
  last:x.2.1=y.2.1
  raw:x.2.2.1=y.2.2.1
  opn:x.2.2.2.2=y.2.2.2.2
  t0:Fd o.1 (need0 c y.2.1) x.2.2.2.1.1 y.2.2.2.1.1
  t1:Fd o.2.1 (need1 c y.2.1) x.2.2.2.1.2.1 y.2.2.2.1.2.1
  t2:Fd o.2.2 (0,0) x.2.2.2.1.2.2 y.2.2.2.1.2.2
theorem Fad.refl (c o) (x:Ser):Fad c o x x:=⟨rfl,rfl,rfl,rfl,.refl _ _ _,.refl _ _ _,.refl _ _ _⟩
theorem Fad.mono {c} {o o':Int×(Int×Int)} {x y:Ser} (h:Fad c o x y) (h0:o.1≤o'.1) (h1:o.2.1≤o'.2.1) (h2:o.2.2≤o'.2.2):Fad c o' x y :=
  ⟨h.lab,h.last,h.raw,h.opn,h.t0.mono h0,h.t1.mono h1,h.t2.mono h2⟩
def olds (c:Conf) (now:Int):Int×(Int×Int):=((oldV now c.2.1.1 c.2.2.1.1).1,((oldV now c.2.1.2.1 c.2.2.1.2.1).1,(oldV now c.2.1.2.2 c.2.2.1.2.2).1))
theorem Fad.clean {c} {now:Int} {x y:Ser} (h:Fad c (olds c now) x y):Fad c (olds c now) (cleanX c now x) y:=by
  refine ⟨h.lab,h.last,h.raw,h.opn,?_,?_,?_⟩
  · show Fd _ _ (fadeT _ (need0 c x.2.1) _) _
    rw[h.last];exact h.t0.fade
  · show Fd _ _ (fadeT _ (need1 c x.2.1) _) _
    rw[h.last];exact h.t1.fade
  · exact h.t2.fade
theorem need0_end {c:Conf} (h:OkC c) (t:Int):t / c.2.1.1+1≤(need0 c t).2∧(need0 c t).1≤t / c.2.1.1:=by
  have hr:=h.rng
  have hp:=factor_pos hr.w0.1 hr.w1.1 h.m1
  have q:=(edvm (t:=t) hr.w0.1 hr.w1.1 h.m1).2
  unfold need0
  simp only
  rw[←q]
  have:=Int.lt_ediv_add_one_mul_self (t / c.2.1.1) hp
  rw[Int.add_mul,Int.one_mul] at this
  exact ⟨by omega,Int.ediv_mul_le _ (by omega)⟩
theorem need1_end {c:Conf} (h:OkC c) (t:Int):t / c.2.1.2.1+1≤(need1 c t).2∧(need1 c t).1≤t / c.2.1.2.1:=by
  have hr:=h.rng
  have hp:=factor_pos hr.w1.1 hr.w2.1 h.m2
  have q:=(edvm (t:=t) hr.w1.1 hr.w2.1 h.m2).2
  unfold need1
  simp only
  rw[←q]
  have:=Int.lt_ediv_add_one_mul_self (t / c.2.1.2.1) hp
  rw[Int.add_mul,Int.one_mul] at this
  exact ⟨by omega,Int.ediv_mul_le _ (by omega)⟩
theorem need_nb {c:Conf} {y:Ser} (h:SerOk c y):NoBehind y.2.2.2.1.1 (need0 c y.2.1).2∧NoBehind y.2.2.2.1.2.1 (need1 c y.2.1).2:=by
  obtain ⟨b0,b1,_⟩:=nb_all h
  exact ⟨nb_mono b0 (need0_end h.fold.cok _).1,nb_mono b1 (need1_end h.fold.cok _).1⟩
theorem Fad.now1 {c} {o} {x y:Ser} (h:Fad c o x y) (hx:SerOk c x) (hy:SerOk c y):now1 c x=now1 c y:=by
  unfold Go.Proofs.YtjeabebacegikaaGreatDoor.now1
  have e:Go.Plim.tfold x.2.2.2.1.1 (y.2.1 / c.2.1.2.1*(c.2.1.2.1 / c.2.1.1)) (y.2.1 / c.2.1.1)=Go.Plim.tfold y.2.2.2.1.1 (y.2.1 / c.2.1.2.1*(c.2.1.2.1 / c.2.1.1)) (y.2.1 / c.2.1.1) :=
    h.t0.tfold hx.fold.t0 hy.fold.t0 (.inr ⟨Int.le_refl _,by have:=(need0_end hy.fold.cok y.2.1).1;omega⟩)
  rw[h.last,h.opn,e]
theorem Fad.now2 {c} {o} {x y:Ser} (h:Fad c o x y) (hx:SerOk c x) (hy:SerOk c y):now2 c x=now2 c y:=by
  unfold Go.Proofs.YtjeabebacegikaaGreatDoor.now2
  have e:Go.Plim.tfold x.2.2.2.1.2.1 (y.2.1 / c.2.1.2.2*(c.2.1.2.2 / c.2.1.2.1)) (y.2.1 / c.2.1.2.1)=Go.Plim.tfold y.2.2.2.1.2.1 (y.2.1 / c.2.1.2.2*(c.2.1.2.2 / c.2.1.2.1)) (y.2.1 / c.2.1.2.1) :=
    h.t1.tfold hx.fold.t1 hy.fold.t1 (.inr ⟨Int.le_refl _,by have:=(need1_end hy.fold.cok y.2.1).1;omega⟩)
  rw[h.now1 hx hy,h.last,e]
theorem rangeV_fd {o r} {a b:List Slo} {w i j last:Int} {now:Cel×Int} {ok ok':Prop} [Decidable ok] [Decidable ok'] (h1:ok) (h2:ok') (h:Fd o r a b) (ha:TierOk a w) (hb:TierOk b w) (hi:o≤i):rangeV ok i j last w a now=rangeV ok' i j last w b now:=by
  unfold rangeV
  rw[if_pos h1,if_pos h2,h.tfold ha hb (.inl hi)]
theorem Fad.rangeK {c} {now:Int} {x y:Ser} (h:Fad c (olds c now) x y) (hx:SerOk c x) (hy:SerOk c y) {k:Int} (h0:0≤k) (h2:k≤2) {i j:Int} (hi:(oldV now (tierW c k) (tierN c k)).1≤i):rangeK c x k i j=rangeK c y k i j:=by
  unfold Go.Proofs.YtjeabebacegikaaGreatDoor.rangeK
  unfold tierW tierN at hi
  rcases (by omega:k=0∨k=1∨k=2) with e | e | e
  · subst e;rw[if_pos rfl,if_pos rfl] at hi ⊢
    rw[h.last,h.opn];exact rangeV_fd hx hy h.t0 hx.fold.t0 hy.fold.t0 hi
  · subst e;rw[if_neg (by decide),if_pos rfl,if_neg (by decide),if_pos rfl] at hi ⊢
    rw[h.last,h.now1 hx hy];exact rangeV_fd hx hy h.t1 hx.fold.t1 hy.fold.t1 hi
  · subst e;rw[if_neg (by decide),if_neg (by decide),if_neg (by decide),if_neg (by decide)] at hi ⊢
    rw[h.last,h.now2 hx hy];exact rangeV_fd hx hy h.t2 hx.fold.t2 hy.fold.t2 hi
theorem need_mono {c:Conf} (h:OkC c) {T U:Int} (hTU:T≤U):(need0 c T).1≤(need0 c U).1∧(need1 c T).1≤(need1 c U).1:=by
  have hr:=h.rng
  have p0:=factor_pos hr.w0.1 hr.w1.1 h.m1
  have p1:=factor_pos hr.w1.1 hr.w2.1 h.m2
  have w1:=hr.w1.1;have w2:=hr.w2.1
  exact ⟨Int.mul_le_mul_of_nonneg_right (Int.ediv_le_ediv (by omega) hTU) (by omega),Int.mul_le_mul_of_nonneg_right (Int.ediv_le_ediv (by omega) hTU) (by omega)⟩
theorem up1_fd {c:Conf} (hc:OkC c) {s t:Trs} {o0 o1 T j:Int} {r:Int×Int} (hs:TierOk s.1 c.2.1.1) (ht:TierOk t.1 c.2.1.1) (h0:Fd o0 (need0 c T) s.1 t.1) (h1:Fd o1 r s.2.1 t.2.1) :
    (up1 c s (T / c.2.1.1) j).1=s.1∧(up1 c t (T / c.2.1.1) j).1=t.1∧(up1 c s (T / c.2.1.1) j).2.2=s.2.2∧(up1 c t (T / c.2.1.1) j).2.2=t.2.2∧Fd o1 r (up1 c s (T / c.2.1.1) j).2.1 (up1 c t (T / c.2.1.1) j).2.1:=by
  have hr:=hc.rng
  have q:=(edvm (t:=T) hr.w0.1 hr.w1.1 hc.m1).1
  have e:mk1 c s (T / c.2.1.2.1)=mk1 c t (T / c.2.1.2.1):=by
    unfold mk1
    refine h0.tfold hs ht (.inr ⟨Int.le_refl _,?_⟩)
    rw[Int.add_mul,Int.one_mul]
    exact Int.le_refl _
  unfold up1
  rw[q,e]
  split
  · exact ⟨rfl,rfl,rfl,rfl,h1⟩
  · split
    · exact ⟨rfl,rfl,rfl,rfl,h1.put _ _⟩
    · exact ⟨rfl,rfl,rfl,rfl,h1⟩
theorem up2_fd {c:Conf} (hc:OkC c) {s t:Trs} {o1 o2 T j:Int} {r:Int×Int} (hs:TierOk s.2.1 c.2.1.2.1) (ht:TierOk t.2.1 c.2.1.2.1) (h1:Fd o1 (need1 c T) s.2.1 t.2.1) (h2:Fd o2 r s.2.2 t.2.2) :
    (up2 c s (T / c.2.1.1) j).1=s.1∧(up2 c t (T / c.2.1.1) j).1=t.1∧(up2 c s (T / c.2.1.1) j).2.1=s.2.1∧(up2 c t (T / c.2.1.1) j).2.1=t.2.1∧Fd o2 r (up2 c s (T / c.2.1.1) j).2.2 (up2 c t (T / c.2.1.1) j).2.2:=by
  have hr:=hc.rng
  have m02:c.2.1.2.2 % c.2.1.1=0:=hc.m02
  have q:=(edvm (t:=T) hr.w0.1 hr.w2.1 m02).1
  have e:mk2 c s (T / c.2.1.2.2)=mk2 c t (T / c.2.1.2.2):=by
    unfold mk2
    refine h1.tfold hs ht (.inr ⟨Int.le_refl _,?_⟩)
    rw[Int.add_mul,Int.one_mul]
    exact Int.le_refl _
  unfold up2
  rw[q,e]
  split
  · exact ⟨rfl,rfl,rfl,rfl,h2⟩
  · split
    · exact ⟨rfl,rfl,rfl,rfl,h2.put _ _⟩
    · exact ⟨rfl,rfl,rfl,rfl,h2⟩
theorem upw_fd {c:Conf} (hc:OkC c) {s t:Trs} {o0 o1 o2 T U:Int} (hTU:T≤U) (hs:FoldOk c s) (ht:FoldOk c t) (h0:Fd o0 (need0 c T) s.1 t.1) (h1:Fd o1 (need1 c T) s.2.1 t.2.1) (h2:Fd o2 (0,0) s.2.2 t.2.2) (n0:NoBehind t.1 (need0 c T).2) (n1:NoBehind t.2.1 (need1 c T).2) :
    Fd o0 (need0 c U) (upw c s (T / c.2.1.1) (U / c.2.1.1)).1 (upw c t (T / c.2.1.1) (U / c.2.1.1)).1∧Fd o1 (need1 c U) (upw c s (T / c.2.1.1) (U / c.2.1.1)).2.1 (upw c t (T / c.2.1.1) (U / c.2.1.1)).2.1∧Fd o2 (0,0) (upw c s (T / c.2.1.1) (U / c.2.1.1)).2.2 (upw c t (T / c.2.1.1) (U / c.2.1.1)).2.2:=by
  obtain ⟨m0,m1⟩:=need_mono hc hTU
  have k0:Fd o0 (need0 c U) s.1 t.1:=h0.up ht.t0 n0 m0
  have k1:Fd o1 (need1 c U) s.2.1 t.2.1:=h1.up ht.t1 n1 m1
  obtain ⟨a1,a2,a3,a4,a5⟩:=up1_fd (j:=U / c.2.1.1) hc hs.t0 ht.t0 h0 h1
  obtain ⟨_,_,_,_,b5⟩:=up1_fd (j:=U / c.2.1.1) hc hs.t0 ht.t0 h0 k1
  have s1:=up1_ok hs (T / c.2.1.1) (U / c.2.1.1)
  have t1:=up1_ok ht (T / c.2.1.1) (U / c.2.1.1)
  obtain ⟨c1,c2,c3,c4,c5⟩:=up2_fd (o2:=o2) (r:=(0,0)) (j:=U / c.2.1.1) hc s1.t1 t1.t1 a5 (by rw[a3,a4];exact h2)
  unfold upw
  rw[c1,c2,c3,c4,a1,a2]
  exact ⟨k0,b5,c5⟩
theorem turned_fd {c:Conf} {o:Int×(Int×Int)} {x y:Ser} {e:Ev} (h:Fad c o x y) (hx:SerOk c x) (hy:SerOk c y) (hlt:y.2.1<e.1) (hq:(turned c y (e.1 / c.2.1.1)).2=0) :
    (turned c x (e.1 / c.2.1.1)).2=0∧(turned c x (e.1 / c.2.1.1)).1.2=(turned c y (e.1 / c.2.1.1)).1.2∧Fd o.1 (need0 c e.1) (turned c x (e.1 / c.2.1.1)).1.1.1 (turned c y (e.1 / c.2.1.1)).1.1.1∧Fd o.2.1 (need1 c e.1) (turned c x (e.1 / c.2.1.1)).1.1.2.1 (turned c y (e.1 / c.2.1.1)).1.1.2.1∧Fd o.2.2 (0,0) (turned c x (e.1 / c.2.1.1)).1.1.2.2 (turned c y (e.1 / c.2.1.1)).1.1.2.2:=by
  have hc:=hy.fold.cok
  obtain ⟨n0,n1⟩:=need_nb hy
  obtain ⟨m0,m1⟩:=need_mono hc (Int.le_of_lt hlt)
  by_cases ht:TurnS y (e.1 / c.2.1.1)
  case neg =>
    have htx:¬TurnS x (e.1 / c.2.1.1):=by unfold TurnS at ht ⊢;rw[h.opn];exact ht
    unfold turned
    rw[if_neg ht,if_neg htx]
    exact ⟨rfl,h.opn,h.t0.up hy.fold.t0 n0 m0,h.t1.up hy.fold.t1 n1 m1,h.t2⟩
  have htx:TurnS x (e.1 / c.2.1.1):=by unfold TurnS at ht ⊢;rw[h.opn];exact ht
  have hE:EndsP c y:=by
    rcases hy.st with ⟨_,k⟩ | ⟨_,k⟩
    · exact absurd k.opn ht.1
    · exact k
  have ei:y.2.2.2.2.1=y.2.1 / c.2.1.1:=by rw[←hE.fit.l,hE.ol]
  unfold turned at hq ⊢
  rw[if_pos ht] at hq
  rw[if_pos ht,if_pos htx]
  by_cases hk:(closeE c y.2.2.2.1 y.2.2.2.2 (e.1 / c.2.1.1)).2=0
  case neg=>rw[if_neg hk] at hq;exact absurd hq hk
  have hk':=hk
  unfold closeE at hk'
  rw[if_pos hy.fold,if_neg ht.1,if_pos hE.fit,if_neg ht.2] at hk'
  by_cases hb:y.2.2.2.2.1≤e.1 / c.2.1.1∧Begins c.2.1.1 (e.1 / c.2.1.1)
  case neg=>rw[if_neg hb] at hk';cases hk'
  have ey:closeE c y.2.2.2.1 y.2.2.2.2 (e.1 / c.2.1.1)=(upw c (tput y.2.2.2.1.1 y.2.2.2.2.1 y.2.2.2.2.2,y.2.2.2.1.2) y.2.2.2.2.1 (e.1 / c.2.1.1),0):=by
    unfold closeE
    rw[if_pos hy.fold,if_neg ht.1,if_pos hE.fit,if_neg ht.2,if_pos hb]
  have ex:closeE c x.2.2.2.1 x.2.2.2.2 (e.1 / c.2.1.1)=(upw c (tput x.2.2.2.1.1 y.2.2.2.2.1 y.2.2.2.2.2,x.2.2.2.1.2) y.2.2.2.2.1 (e.1 / c.2.1.1),0):=by
    unfold closeE
    rw[h.opn,if_pos hx.fold,if_neg ht.1,if_pos hE.fit,if_neg ht.2,if_pos hb]
  rw[ex,ey,if_pos rfl,if_pos rfl,ei]
  have fx:=foldOk_put0 hx.fold hE.fit
  have fy:=foldOk_put0 hy.fold hE.fit
  rw[ei] at fx fy
  have k0:=h.t0.put (y.2.1 / c.2.1.1) y.2.2.2.2.2
  have nb:NoBehind (tput y.2.2.2.1.1 (y.2.1 / c.2.1.1) y.2.2.2.2.2) (need0 c y.2.1).2:=nb_tput n0 (by have:=(need0_end hc y.2.1).1;omega)
  exact ⟨rfl,rfl,upw_fd hc (Int.le_of_lt hlt) fx fy k0 h.t1 h.t2 nb n1⟩
theorem Fad.putE {c:Conf} {o:Int×(Int×Int)} {x y y':Ser} {e:Ev} (h:Fad c o x y) (hx:SerOk c x) (hy:SerOk c y) (hp:putE c y e=(y',0)):∃x',putE c x e=(x',0)∧Fad c o x' y':=by
  obtain ⟨_,he,hlt,_⟩:=serOk_put hy hp
  unfold Go.Proofs.YtjeabebacegikaaGreatDoor.putE at hp ⊢
  rw[if_pos ⟨hy,he⟩,if_neg (by omega)] at hp
  rw[if_pos ⟨hx,he⟩,if_neg (by rw[h.last];omega)]
  by_cases h1:(turned c y (e.1 / c.2.1.1)).2=0
  case neg=>rw[if_pos h1] at hp;exact absurd (congrArg Prod.snd hp) h1
  obtain ⟨a1,a2,a3,a4,a5⟩:=turned_fd h hx hy hlt h1
  rw[if_neg (fun k=>k h1)] at hp
  rw[if_neg (fun k=>k a1),h.raw,a2]
  by_cases h2:(rawPut y.2.2.1 c.1 e).2=0
  case neg=>rw[if_pos h2] at hp;exact absurd (congrArg Prod.snd hp) h2
  rw[if_neg (fun k=>k h2)] at hp ⊢
  by_cases h3:(mrgE (turned c y (e.1 / c.2.1.1)).1.2.2 (evCell e)).2=0
  case neg=>rw[if_pos h3] at hp;exact absurd (congrArg Prod.snd hp) h3
  rw[if_neg (fun k=>k h3)] at hp ⊢
  injection hp with hp _
  subst hp
  exact ⟨_,rfl,h.lab,rfl,rfl,rfl,a3,a4,a5⟩
theorem chk_ok {α:Type} {s:Sta} (h:StaOk s) (x y:α):tif (decide ((if StaOk s then (0:Int) else 2)=0)) x y=x:=by rw[if_pos h];rfl
theorem chk_no {α:Type} {s:Sta} (h:¬StaOk s) (x y:α):tif (decide ((if StaOk s then (0:Int) else 2)=0)) x y=y:=by rw[if_neg h];rfl
theorem get_mid {α:Type} {l pre rest:List α} {x:α} {i:Int} (h:l=pre++x::rest) (hi:i=pre.length):l[i.toNat]? = some x:=by subst h hi;simp
theorem set_mid {α:Type} {pre rest:List α} {x v:α} {i:Int} (hi:i=pre.length):(pre++x::rest).set i.toNat v=(pre++[v])++rest:=by subst hi;simp
theorem at_nn {α:Type} {l:List α} {i:Int} {x:α} (h0:0≤i) (h:l[i.toNat]? = some x):at? l i=some x:=by unfold at?;rw[decide_eq_true h0];exact h
section
variable {del:Int×Unit→Option Bool} {p:Int→Bool} {L:List Int} (hd:∀x∈L,del (x,())=some (p x))
include hd
theorem index_il (n:Nat) (l:List Int) (hL:l.length≤1000000):∀(rest pre:List Int) (f:Nat) (i len:Int),(∀x∈rest,x∈L)→l=pre++rest→i=pre.length→len=l.length→rest.length<f →
    (sl_IndexFunc_int_l2 n f (l,del,len,i,())=some (.inl ())∧∀x∈rest,p x=false) ∨
    (∃A x B,rest=A++x::B∧(∀y∈A,p y=false)∧p x=true∧sl_IndexFunc_int_l2 n f (l,del,len,i,())=some (.inr (i+A.length))):=by
  intro rest
  induction rest with
  | nil =>
    intro pre f i len hm hl hi hn hf
    obtain ⟨f,rfl⟩:∃g,f=g+1:=⟨f-1,by simp at hf;omega⟩
    rw[sl_IndexFunc_int_l2_eq]
    exact .inl ⟨by simp only[tfd,if_neg (idxe hl hi hn)],by simp⟩
  | cons x rest ih =>
    intro pre f i len hm hl hi hn hf
    obtain ⟨f,rfl⟩:∃g,f=g+1:=⟨f-1,by simp at hf;omega⟩
    rw[sl_IndexFunc_int_l2_eq]
    simp only[tfd,if_pos (idx hl hi hn),at_mid hl hi,obs,hd x (hm x (by simp)),idxw hl hi (show l.length≤1000000000000 by omega)]
    cases hp:p x with
    | true=>exact .inr ⟨[],x,rest,rfl,by simp,hp,by simp⟩
    | false =>
      rw[tff]
      rcases ih (pre++[x]) f (i+1) len (fun y hy=>hm y (by simp[hy])) (idxl hl) (idxs hi) hn (by simp at hf;omega) with ⟨h1,h2⟩ | ⟨A,y,B,h1,h2,h3,h4⟩
      · exact .inl ⟨h1,by intro z hz;rcases List.mem_cons.1 hz with rfl | hz;exact hp;exact h2 z hz⟩
      · refine .inr ⟨x::A,y,B,by rw[h1];rfl,?_,h3,by rw[h4,List.length_cons,show i+1+(A.length:Int)=i+((A.length+1:Nat):Int) by omega]⟩
        intro z hz
        rcases List.mem_cons.1 hz with rfl | hz
        · exact hp
        · exact h2 z hz
theorem delete_il (n:Nat) (l0:List Int) (hL:l0.length≤1000000):∀(rest F G:List Int) (f:Nat) (i j:Int),(∀x∈rest,x∈L)→(F++(G++rest)).length=l0.length→G≠[]→i=F.length→j=F.length+G.length→rest.length<f →
    ∃G',sl_DeleteFunc_int_l5 n f (F++(G++rest),del,i,j,())=some (.inl (F++rest.filter (fun x => !p x)++G',(F++rest.filter (fun x => !p x)).length,()))∧(F++rest.filter (fun x => !p x)++G').length=l0.length:=by
  intro rest
  induction rest with
  | nil =>
    intro F G f i j hm hl hg hi hj hf
    obtain ⟨f,rfl⟩:∃g,f=g+1:=⟨f-1,by simp at hf;omega⟩
    rw[sl_DeleteFunc_int_l5_eq]
    have:¬(j<((F++(G++[])).length:Int)):=by simp;omega
    simp only[tfd,if_neg this]
    exact ⟨G,by simp[hi],by simpa using hl⟩
  | cons x rest ih =>
    intro F G f i j hm hl hg hi hj hf
    have hm':∀y∈rest,y∈L:=fun y hy=>hm y (by simp[hy])
    obtain ⟨f,rfl⟩:∃g,f=g+1:=⟨f-1,by simp at hf;omega⟩
    rw[sl_DeleteFunc_int_l5_eq]
    simp only[List.length_append,List.length_cons] at hl
    have hlt:j<((F++(G++x::rest)).length:Int):=by simp;omega
    have hat:at? (F++(G++x::rest)) j=some x:=at_mid (pre:=F++G) (rest:=rest) (by simp) (by simp;omega)
    have hget:(F++(G++x::rest))[j.toNat]? = some x:=by
      rw[show j.toNat=F.length+G.length by omega,List.getElem?_append_right (by omega),List.getElem?_append_right (by omega)]
      simp
    simp only[tfd,if_pos hlt,hat,hget,obs,hd x (hm x (by simp))]
    have wj:IntKind.wrap .i64 (j+1)=j+1:=by rw[w64 (by omega) (by omega)]
    have wi:IntKind.wrap .i64 (i+1)=i+1:=by rw[w64 (by omega) (by omega)]
    rw[wj,wi]
    match G,hg with
    | g::G,_ =>
    cases hp:p x with
    | false =>
      have hat':at? (F++(g::G++x::rest)) i=some g:=at_mid (pre:=F) (rest:=G++x::rest) (by simp) hi
      have hget':(F++(g::G++x::rest))[i.toNat]? = some g:=by
        rw[show i.toNat=F.length by omega];simp
      have hset:(F++(g::G++x::rest)).set i.toNat x=(F++[x])++((G++[x])++rest):=by
        rw[show i.toNat=F.length by omega,List.set_append_right _ _ (by omega)]
        simp
      simp only[Bool.not_false,tft,hat',hget',obs,hset]
      obtain ⟨G',h1,h2⟩:=ih (F++[x]) (G++[x]) f (i+1) (j+1) hm' (by simp at hl ⊢;omega) (by simp) (by simp;omega) (by simp at hj ⊢;omega) (by simp at hf;omega)
      refine ⟨G',?_,?_⟩
      · rw[h1];simp[List.filter_cons,hp]
      · rw[←h2];simp[List.filter_cons,hp]
    | true =>
      simp only[Bool.not_true,tff]
      obtain ⟨G',h1,h2⟩:=ih F (g::G++[x]) f i (j+1) hm' (by simp at hl ⊢;omega) (by simp) hi (by simp at hj ⊢;omega) (by simp at hf;omega)
      simp only[List.append_assoc,List.singleton_append] at h1
      refine ⟨G',?_,?_⟩
      · rw[h1];simp[List.filter_cons,hp]
      · rw[←h2];simp[List.filter_cons,hp]
theorem delete_int (n:Nat) (l:List Int) (hL:l.length≤1000000) (hm:∀x∈l,x∈L):sl_DeleteFunc_int (n+2) l del=some (l.filter fun x => !p x):=by
  rw[sl_DeleteFunc_int_eq,sl_IndexFunc_int_eq]
  rcases index_il hd n l hL l [] loopFuel 0 l.length hm rfl rfl rfl (by unfold loopFuel;omega) with ⟨h1,h2⟩ | ⟨A,x,B,h1,h2,h3,h4⟩
  · rw[h1]
    simp only[obs,selim_inl,tfd,if_pos trivial]
    exact congrArg some (List.filter_eq_self.2 fun y hy=>by simp[h2 y hy]).symm
  · rw[h4]
    have hl:l.length=A.length+(B.length+1):=by rw[h1];simp
    simp only[obs,selim_inr,tfd,Int.zero_add]
    rw[if_neg (by omega),w64 (x:=(A.length:Int)+1) (by omega) (by omega)]
    obtain ⟨G',g1,g2⟩:=delete_il hd (n+1) l hL B A [x] loopFuel (A.length:Int) (A.length+1) (fun y hy=>hm y (by rw[h1];simp[hy])) (by rw[h1];simp) (by simp) rfl (by simp) (by unfold loopFuel;omega)
    rw[show A++([x]++B)=l by rw[h1];simp] at g1
    rw[g1]
    have hF:A++B.filter (fun x => !p x)=l.filter fun x => !p x:=by
      rw[h1,List.filter_append,List.filter_cons]
      have:A.filter (fun x => !p x)=A:=List.filter_eq_self.2 fun y hy=>by simp[h2 y hy]
      simp[h3,this]
    rw[hF] at g2 ⊢
    generalize (l.filter fun x => !p x)=F at *
    simp only[obs,selim_inl,tif_and,tfd,Int.toNat_natCast]
    have hle:F.length≤(F++G').length:=by simp
    have k1:putRow (F++G') F.length (List.replicate ((F++G').length-F.length) (0:Int))=F++List.replicate ((F++G').length-F.length) (0:Int):=by
      unfold putRow
      rw[List.drop_of_length_le (by simp)]
      simp
    rw[k1,if_pos (by omega),if_pos hle,if_pos (by omega),if_pos (by omega),if_pos (by simp;omega)]
    simp
end
theorem live_at {s:Sta} {z:Int} (h:z∈(liveV s).map Int.ofNat):0≤z∧∃y,s.2.2.2[z.toNat]? = some y∧LvX s y:=by
  obtain ⟨i,hi,rfl⟩:=List.mem_map.1 h
  have h1:=(List.mem_filter.1 hi).2
  obtain ⟨x,hx,hl⟩:=lvAt_iff.1 h1
  exact ⟨Int.natCast_nonneg i,x,hx,hl⟩
theorem sweep_due_1 (n:Nat) {s:Sta} {z:Int} {x:Ser} (h0:0≤z) (hx:s.2.2.2[z.toNat]? = some x):sweep_Due_1 (n+7) z s=some (!dueAt s z.toNat):=by
  rw[sweep_Due_1_eq,at_nn h0 hx,obs,series_dead n,obs]
  unfold dueAt
  rw[hx]
theorem due_list (s:Sta):((liveV s).map Int.ofNat).filter (fun z=>dueAt s z.toNat)=((liveV s).filter (dueAt s)).map Int.ofNat:=by
  rw[List.filter_map];rfl
theorem sweep_due (n:Nat) {s:Sta} (hw:StaW s):sweep_Due (n+15) s=some ((dueV s).map Int.ofNat):=by
  rw[sweep_Due_eq,stt_check n hw,obs,tfn]
  unfold dueV
  by_cases h:StaOk s
  case neg=>rw[chk_no h,if_neg h];rfl
  have hd:∀z∈(liveV s).map Int.ofNat,(fun y2:Int×Unit=>sweep_Due_1 (n+14) y2.1 s) (z,())=some (!dueAt s z.toNat):=fun z hz=>by
    obtain ⟨h0,y,hy,_⟩:=live_at hz
    exact sweep_due_1 (n+7) h0 hy
  have hL:((liveV s).map Int.ofNat).length≤1000000:=by have:=live_len s;have:=h.whole.len;simp;omega
  have e:liveR s=(liveV s).map Int.ofNat:=if_pos h.whole
  rw[chk_ok h,stt_live (n+6) hw,obs,e,delete_int (del:=fun y2:Int×Unit=>sweep_Due_1 (n+14) y2.1 s) (p:=fun z => !dueAt s z.toNat) hd (n+12) _ hL (fun _ hx=>hx),obs,if_pos h,←due_list]
  simp only[Bool.not_not]
noncomputable def doV (s:Sta):Sta×(Int×Int):=if StaOk s then (sweptS s,(((dueV s).length:Int),0)) else (sta0,(0,2))
theorem sweep_do (n:Nat) {s:Sta} (hw:StaW s):sweep_Do (n+16) s=some (doV s):=by
  rw[sweep_Do_eq,stt_check (n+1) hw,obs,tfn]
  unfold doV
  by_cases h:StaOk s
  case neg=>rw[chk_no h,if_neg h,if_neg h];rfl
  rw[chk_ok h,if_pos h,sweep_due n hw,obs,List.length_map];rfl
theorem sweptS_w {s:Sta} (hw:StaW s):StaW (sweptS s):=⟨hw.len,hw.ser⟩
theorem fade_cons (o:Int) (r:Int×Int) (x:Slo) (l:List Slo):fadeT o r (x::l)=(if KeepP o r x then x else s0)::fadeT o r l:=rfl
theorem fade_l4 (n:Nat) (o a b:Int):∀(rest pre:List Slo) (f:Nat) (ix len:Int),pre.length+rest.length≤1000000→ix=pre.length→len=(pre.length:Int)+rest.length→rest.length<f →
    sweep_fade_l4 n f (o,a,b,pre++rest,len,ix,())=some (.inl (pre++fadeT o (a,b) rest,())):=by
  intro rest
  induction rest with
  | nil =>
    intro pre f ix len hL hi hn hf
    obtain ⟨f,rfl⟩:∃g,f=g+1:=⟨f-1,by simp at hf;omega⟩
    rw[sweep_fade_l4_eq,decide_eq_false (by simp at hn;omega),tff];rfl
  | cons x rest ih =>
    intro pre f ix len hL hi hn hf
    obtain ⟨f,rfl⟩:∃g,f=g+1:=⟨f-1,by simp at hf;omega⟩
    simp only[List.length_cons] at hL hn hf
    have go:∀v:Slo,v=(if KeepP o (a,b) x then x else s0)→sweep_fade_l4 n f (o,a,b,(pre++[v])++rest,len,ix+1,())=some (.inl (pre++fadeT o (a,b) (x::rest),())):=by
      intro v hv
      rw[ih (pre++[v]) f (ix+1) len (by simp;omega) (by simp;omega) (by simp;omega) (by omega),fade_cons,←hv]
      simp
    have same:(pre++[x])++rest=pre++x::rest:=by simp
    have gm:∀v:Slo,(pre++x::rest).set ix.toNat v=(pre++[v])++rest:=fun v=>set_mid hi
    rw[sweep_fade_l4_eq,decide_eq_true (by omega),tft,at_mid rfl hi,obs,get_mid rfl hi,obs,w64 (by omega) (by omega)]
    simp only[tfd,obs,gm]
    by_cases h1:x.1<o
    · rw[if_pos h1]
      by_cases h2:x.1<a
      · rw[if_pos h2]
        exact go s0 (if_neg (fun k:KeepP o (a,b) x=>k ⟨h1,.inl h2⟩)).symm
      · rw[if_neg h2]
        by_cases h3:b≤x.1
        · rw[if_pos h3]
          exact go s0 (if_neg (fun k:KeepP o (a,b) x=>k ⟨h1,.inr h3⟩)).symm
        · rw[if_neg h3,←same]
          exact go x (if_pos (show KeepP o (a,b) x from fun k=>k.2.elim h2 h3)).symm
    · rw[if_neg h1,←same]
      exact go x (if_pos (show KeepP o (a,b) x from fun k=>h1 k.1)).symm
theorem need_rng {t a b:Int} (ht:0≤t∧t<35184372088832) (ha:1≤a) (hb:1≤b) (hb1:b≤1099511627776) (hm:b % a=0):0≤t / b*(b / a)∧t / b*(b / a)≤t∧1≤b / a∧b / a≤1099511627776:=by
  have hp:=factor_pos ha hb hm
  have q:=(edvm (t:=t) ha hb hm).2
  have h0:0≤t / b:=Int.ediv_nonneg ht.1 (by omega)
  have h1:t / b*(b / a)≤t / a:=by rw[←q];exact Int.ediv_mul_le _ (by omega)
  have h2:t / a≤t:=Int.ediv_le_self _ ht.1
  have h3:b / a≤b:=Int.ediv_le_self _ (by omega)
  exact ⟨Int.mul_nonneg h0 (by omega),by omega,by omega,by omega⟩
theorem need_quo {a b:Int} (ha:1≤a) (hb:1≤b) (hb1:b≤1099511627776):IntKind.wrap .i64 (Int.tdiv b a)=b / a:=quo_at ⟨by omega,by omega⟩ ha
theorem needed_0 (n:Nat) {c:Conf} (h:OkC c) {t:Int} (ht:0≤t∧t<35184372088832):sweep_needed (n+1) c t 0=some (need0 c t):=by
  have hr:=h.rng
  obtain ⟨a1,a2,a3,a4⟩:=need_rng ht hr.w0.1 hr.w1.1 hr.w1.2 h.m1
  rw[sweep_needed_eq_0,tfd,if_neg (nz hr.w0.1),tfd,if_neg (nz hr.w1.1),quo_at ht hr.w1.1,need_quo hr.w0.1 hr.w1.1 hr.w1.2,w64 (x:=t / c.2.1.2.1*(c.2.1.2.1 / c.2.1.1)) (by omega) (by omega),w64 (by omega) (by omega)];rfl
theorem needed_1 (n:Nat) {c:Conf} (h:OkC c) {t:Int} (ht:0≤t∧t<35184372088832):sweep_needed (n+1) c t 1=some (need1 c t):=by
  have hr:=h.rng
  obtain ⟨a1,a2,a3,a4⟩:=need_rng ht hr.w1.1 hr.w2.1 hr.w2.2 h.m2
  rw[sweep_needed_eq_1,tfd,if_neg (nz hr.w1.1),tfd,if_neg (nz hr.w2.1),quo_at ht hr.w2.1,need_quo hr.w1.1 hr.w2.1 hr.w2.2,w64 (x:=t / c.2.1.2.2*(c.2.1.2.2 / c.2.1.2.1)) (by omega) (by omega),w64 (by omega) (by omega)];rfl
theorem fade_0 (n:Nat) {c:Conf} (h:OkC c) (x:Ser) (ht:0≤x.2.1∧x.2.1<35184372088832) (hL:x.2.2.2.1.1.length≤1000000) (o:Int):sweep_fade (n+2) c x 0 o=some (fadeT o (need0 c x.2.1) x.2.2.2.1.1):=by
  rw[sweep_fade_eq_0,needed_0 n h ht,obs,clone_slot n _ hL,obs]
  have e:=fade_l4 (n+1) o (need0 c x.2.1).1 (need0 c x.2.1).2 x.2.2.2.1.1 [] loopFuel 0 (x.2.2.2.1.1.length:Int) (by simpa using hL) rfl (by simp) (by unfold loopFuel;omega)
  rw[List.nil_append] at e
  rw[e,obs,selim_inl];rfl
theorem fade_1 (n:Nat) {c:Conf} (h:OkC c) (x:Ser) (ht:0≤x.2.1∧x.2.1<35184372088832) (hL:x.2.2.2.1.2.1.length≤1000000) (o:Int):sweep_fade (n+2) c x 1 o=some (fadeT o (need1 c x.2.1) x.2.2.2.1.2.1):=by
  rw[sweep_fade_eq_1,needed_1 n h ht,obs,clone_slot n _ hL,obs]
  have e:=fade_l4 (n+1) o (need1 c x.2.1).1 (need1 c x.2.1).2 x.2.2.2.1.2.1 [] loopFuel 0 (x.2.2.2.1.2.1.length:Int) (by simpa using hL) rfl (by simp) (by unfold loopFuel;omega)
  rw[List.nil_append] at e
  rw[e,obs,selim_inl];rfl
theorem fade_2 (n:Nat) (c:Conf) (x:Ser) (hL:x.2.2.2.1.2.2.length≤1000000) (o:Int):sweep_fade (n+2) c x 2 o=some (fadeT o (0,0) x.2.2.2.1.2.2):=by
  rw[sweep_fade_eq_2,sweep_needed_eq_2,obs,clone_slot n _ hL,obs]
  have e:=fade_l4 (n+1) o 0 0 x.2.2.2.1.2.2 [] loopFuel 0 (x.2.2.2.1.2.2.length:Int) (by simpa using hL) rfl (by simp) (by unfold loopFuel;omega)
  rw[List.nil_append] at e
  rw[e,obs,selim_inl];rfl
theorem time_of {s:Sta} (h:StaOk s) {x:Ser} (hx:SerOk s.1 x) (h0:0≤x.2.1):0≤x.2.1∧x.2.1<35184372088832:=serOk_at hx (by omega)
theorem clean_l10 (n:Nat) {s:Sta} (h:StaOk s) {x:Ser} (hx:SerOk s.1 x) (h0:0≤x.2.1) (s2:Sta) (out:List Ser) (i:Int) (L:List Int) (q1 q2:Int) (f:Nat) :
    sweep_Clean_l10 (n+14) (f+4) (s,s2,out,i,x,L,q1,q2,s.1.2.1,(0:Int),())=some (.inl (s,s2,out,i,cleanX s.1 s.2.1 x,L,q1,q2,())):=by
  have hr:=h.whole.1.rng
  have ht:=h.clock.1
  have hc:=h.whole.1
  have hT:=time_of h hx h0
  have l0:=hx.fold.t0.l1;have l1:=hx.fold.t1.l1;have l2:=hx.fold.t2.l1
  rw[sweep_Clean_l10_eq_0,wi_oldest (n+10),obs,tfn,decide_eq_true (old_none ⟨ht.1,ht.2,hr.w0.1,hr.w0.2⟩ hr.n0),tft,fade_0 (n+12) hc x hT (by omega),obs]
  generalize e0:fadeT (oldV s.2.1 s.1.2.1.1 s.1.2.2.1.1).1 (need0 s.1 x.2.1) x.2.2.2.1.1=F0
  rw[sweep_Clean_l10_eq_1,wi_oldest (n+10),obs,tfn,decide_eq_true (old_none ⟨ht.1,ht.2,hr.w1.1,hr.w1.2⟩ hr.n1),tft,
    fade_1 (n+12) hc (x.1,(x.2.1,(x.2.2.1,((F0,x.2.2.2.1.2),x.2.2.2.2)))) hT (by show x.2.2.2.1.2.1.length≤_;omega),obs]
  dsimp only
  generalize e1:fadeT (oldV s.2.1 s.1.2.1.2.1 s.1.2.2.1.2.1).1 (need1 s.1 x.2.1) x.2.2.2.1.2.1=F1
  rw[sweep_Clean_l10_eq_2,wi_oldest (n+10),obs,tfn,decide_eq_true (old_none ⟨ht.1,ht.2,hr.w2.1,hr.w2.2⟩ hr.n2),tft,
    fade_2 (n+12) s.1 (x.1,(x.2.1,(x.2.2.1,((F0,(F1,x.2.2.2.1.2.2)),x.2.2.2.2)))) (by show x.2.2.2.1.2.2.length≤_;omega),obs,sweep_Clean_l10_eq_3]
  subst e0 e1
  rfl
noncomputable def cleanO (s:Sta) (L:List Int) (out:List Ser):List Ser:=L.foldl (fun o z=>o.set z.toNat (cleanX s.1 s.2.1 ((s.2.2.2[z.toNat]?).getD ser0))) out
theorem clean_l6 (n:Nat) {s:Sta} (h:StaOk s) (s2:Sta) (L:List Int) (hL:L.length≤1000000) (hm:∀z∈L,0≤z∧∃y,s.2.2.2[z.toNat]? = some y∧SerOk s.1 y∧0≤y.2.1):∀(rest pre:List Int) (f:Nat) (out:List Ser) (ix len:Int),L=pre++rest→ix=pre.length→len=L.length→rest.length<f→out.length=s.2.2.2.length →
    sweep_Clean_l6 (n+14) f (s,s2,out,L,len,ix,())=some (.inl (s,s2,cleanO s rest out,())):=by
  intro rest
  induction rest with
  | nil =>
    intro pre f out ix len hl hi hn hf ho
    obtain ⟨f,rfl⟩:∃g,f=g+1:=⟨f-1,by simp at hf;omega⟩
    rw[sweep_Clean_l6_eq,decide_eq_false (idxe hl hi hn),tff];rfl
  | cons z rest ih =>
    intro pre f out ix len hl hi hn hf ho
    obtain ⟨f,rfl⟩:∃g,f=g+1:=⟨f-1,by simp at hf;omega⟩
    obtain ⟨h0,y,hy,hs,hy0⟩:=hm z (by rw[hl];simp)
    have hlt:z.toNat<out.length:=by rw[ho];exact (List.getElem?_eq_some_iff.1 hy).1
    have hg:out[z.toNat]? = some out[z.toNat]:=List.getElem?_eq_getElem hlt
    have e10:=clean_l10 n h hs hy0 s2 out z L len ix (2^70-4)
    rw[show 2^70-4+4=loopFuel from by decide] at e10
    rw[sweep_Clean_l6_eq,decide_eq_true (idx hl hi hn),tft,at_mid hl hi,obs,get_mid hl hi,obs,at_nn h0 hy,obs,e10,obs,selim_inl]
    dsimp only
    rw[at_nn h0 hg,obs,hg,obs,idxw hl hi (show L.length≤1000000000000 by omega),ih (pre++[z]) f _ (ix+1) len (idxl hl) (idxs hi) hn (by simp at hf;omega) (by simpa using ho)]
    unfold cleanO
    rw[List.foldl_cons,hy];rfl
theorem set_fold {α:Type} (g:Int→α) (j:Nat):∀(L:List Int) (out:List α),(∀z∈L,0≤z)→(L.foldl (fun o z=>o.set z.toNat (g z)) out)[j]? = if (j:Int)∈L then (if j<out.length then some (g j) else none) else out[j]? := by
  intro L
  induction L with
  | nil=>intro out _;simp
  | cons z L ih =>
    intro out hz
    have h0:=hz z (by simp)
    rw[List.foldl_cons,ih _ (fun y hy=>hz y (by simp[hy])),List.length_set]
    by_cases h:(j:Int)∈L
    · rw[if_pos h,if_pos (show (j:Int)∈z::L by simp[h])]
    · rw[if_neg h,List.getElem?_set]
      by_cases e:z.toNat=j
      · have e':z=(j:Int):=by omega
        rw[if_pos e,if_pos (show (j:Int)∈z::L by simp[e']),e,e']
      · rw[if_neg e,if_neg (show ¬(j:Int)∈z::L by simp[h];omega)]
theorem cleanO_all {s:Sta} (h:StaOk s):cleanO s ((liveV s).map Int.ofNat) (List.replicate s.2.2.2.length ser0)=s.2.2.2.map (cleanP s):=by
  apply List.ext_getElem?
  intro j
  unfold cleanO
  rw[set_fold (fun z=>cleanX s.1 s.2.1 ((s.2.2.2[z.toNat]?).getD ser0)) j _ _ (fun z hz=>(live_at hz).1),List.getElem?_map,List.length_replicate]
  have hmem:((j:Int)∈(liveV s).map Int.ofNat)↔lvAt s j=true:=by
    constructor
    · intro hz
      obtain ⟨i,hi,e⟩:=List.mem_map.1 hz
      have e:i=j:=by injection e
      rw[←e];exact (List.mem_filter.1 hi).2
    · intro hl
      exact List.mem_map.2 ⟨j,List.mem_filter.2 ⟨List.mem_range.2 (lvAt_lt hl),hl⟩,rfl⟩
  by_cases hl:lvAt s j=true
  · obtain ⟨x,hx,hlx⟩:=lvAt_iff.1 hl
    rw[if_pos (hmem.2 hl),if_pos (lvAt_lt hl),hx]
    simp only[Option.map_some,Int.toNat_natCast,hx,Option.getD_some]
    exact congrArg some (if_pos hlx).symm
  · rw[if_neg (fun k=>hl (hmem.1 k)),List.getElem?_replicate]
    cases hx:s.2.2.2[j]? with
    | none=>rw[if_neg (by have:=List.getElem?_eq_none_iff.1 hx;omega)];rfl
    | some x =>
      rw[if_pos (List.getElem?_eq_some_iff.1 hx).1]
      have hn:¬LvX s x:=fun k=>hl (lvAt_iff.2 ⟨x,hx,k⟩)
      exact congrArg some (if_neg hn).symm
noncomputable def cleanV (s:Sta):Sta×Int:=if StaOk s then (cleanS s,0) else (sta0,2)
theorem live_all_ok {s:Sta} (h:StaOk s):∀z∈(liveV s).map Int.ofNat,0≤z∧∃y,s.2.2.2[z.toNat]? = some y∧SerOk s.1 y∧0≤y.2.1:=by
  intro z hz
  obtain ⟨h0,y,hy,hl⟩:=live_at hz
  exact ⟨h0,y,hy,live_ok h (List.mem_of_getElem? hy) hl⟩
theorem sweep_clean (n:Nat) {s:Sta} (hw:StaW s):sweep_Clean (n+15) s=some (cleanV s):=by
  rw[sweep_Clean_eq,stt_check n hw,obs,tfn]
  unfold cleanV
  by_cases h:StaOk s
  case neg=>rw[chk_no h,if_neg h,if_neg h];rfl
  have hlen:=h.whole.len
  have hL:((liveV s).map Int.ofNat).length≤1000000:=by have:=live_len s;simp;omega
  have e:liveR s=(liveV s).map Int.ofNat:=if_pos h.whole
  have e6:=clean_l6 n h sta0 _ hL (live_all_ok h) _ [] loopFuel (List.replicate s.2.2.2.length ser0) 0 _ rfl rfl rfl (by unfold loopFuel;omega) (by simp)
  rw[cleanO_all h] at e6
  rw[chk_ok h,if_pos h,decide_eq_true (by omega),decide_eq_true (Int.le_refl _),decide_eq_true (show (s.2.2.2.length:Int)*264≤140737488355328 by omega),Bool.and_self,Bool.and_self,tft,stt_live (n+6) hw,obs,e,Int.toNat_natCast]
  change obind (sweep_Clean_l6 (n+14) loopFuel (s,sta0,List.replicate s.2.2.2.length ser0,(liveV s).map Int.ofNat,(((liveV s).map Int.ofNat).length:Int),(0:Int),())) _=_
  rw[e6,obs,selim_inl];rfl
theorem cleanX_w {c:Conf} {now:Int} {x:Ser} (hx:SerW x∧SerM x):SerW (cleanX c now x)∧SerM (cleanX c now x):=by
  obtain ⟨⟨h1,h2,h3,h4⟩,m1,m2,m3,m4,m5⟩:=hx
  have fw:∀(o:Int) (r:Int×Int) (l:List Slo),(∀z∈l,SloW z)→∀z∈fadeT o r l,SloW z:=by
    intro o r l hl z hz
    obtain ⟨y,hy,e⟩:=List.mem_map.1 hz
    split at e
    · rw[←e];exact hl y hy
    · rw[←e];exact slow_s0
  refine ⟨⟨h1,h2,?_,h4⟩,m1,m2,by simpa [cleanX,fadeT_len] using m3,by simpa [cleanX,fadeT_len] using m4,by simpa [cleanX,fadeT_len] using m5⟩
  obtain ⟨t1,t2,t3⟩:=h3
  exact ⟨fw _ _ _ t1,fw _ _ _ t2,fw _ _ _ t3⟩
theorem cleanS_w {s:Sta} (hw:StaW s):StaW (cleanS s):=by
  refine ⟨by simpa [cleanS] using hw.len,fun x hx => ?_⟩
  obtain ⟨y,hy,e⟩:=List.mem_map.1 hx
  unfold cleanP at e
  split at e
  · rw[←e];exact cleanX_w (hw.ser y hy)
  · rw[←e];exact ⟨ser0_w,ser0_m⟩
structure EvInv (N:Nat) (s:Sta):Prop where
  ok:StaOk s
  w:StaW s
  ser:∀x∈s.2.2.2,x=ser0∨∃y l,SerInv s.1 y l∧l≠[]∧l.length≤N∧Fad s.1 (olds s.1 s.2.1) x y
theorem EvInv.of {N:Nat} {s:Sta} (h:StaInv N s):EvInv N s:=⟨h.ok,h.w,fun x hx=>(h.ser x hx).imp id fun ⟨l,h1,h2,h3⟩=>⟨x,l,h1,h2,h3,.refl _ _ _⟩⟩
theorem EvInv.mono {N M:Nat} {s:Sta} (h:EvInv N s) (hm:N≤M):EvInv M s :=
  ⟨h.ok,h.w,fun x hx=>(h.ser x hx).imp id fun ⟨y,l,h1,h2,h3,h4⟩=>⟨y,l,h1,h2,Nat.le_trans h3 hm,h4⟩⟩
theorem olds_mono {s:Sta} (h:StaOk s) {now:Int} (h1:s.2.1≤now) (h2:now<35184372088832):(olds s.1 s.2.1).1≤(olds s.1 now).1∧(olds s.1 s.2.1).2.1≤(olds s.1 now).2.1∧(olds s.1 s.2.1).2.2≤(olds s.1 now).2.2:=by
  have hr:=h.whole.1.rng
  have hc:=h.clock.1
  have c1:=hc.1;have c2:=hc.2
  exact ⟨old_mono ⟨c1,c2,hr.w0.1,hr.w0.2⟩ ⟨by omega,h2,hr.w0.1,hr.w0.2⟩ h1 hr.n0,old_mono ⟨c1,c2,hr.w1.1,hr.w1.2⟩ ⟨by omega,h2,hr.w1.1,hr.w1.2⟩ h1 hr.n1,old_mono ⟨c1,c2,hr.w2.1,hr.w2.2⟩ ⟨by omega,h2,hr.w2.1,hr.w2.2⟩ h1 hr.n2⟩
theorem EvInv.tick {N:Nat} {s:Sta} (h:EvInv N s) (now:Int):EvInv N (tickV s now).1:=by
  unfold tickV
  by_cases hm:Moves s now
  · rw[if_pos hm]
    obtain ⟨m1,m2,m3⟩:=olds_mono h.ok (Int.le_of_lt hm.2.1) hm.2.2
    exact ⟨tick_ok hm,tickS_w h.w now,fun x hx=>(h.ser x hx).imp id fun ⟨y,l,h1,h2,h3,h4⟩=>⟨y,l,h1,h2,h3,h4.mono m1 m2 m3⟩⟩
  · rw[if_neg hm];exact h
theorem fad_put {c:Conf} {o:Int×(Int×Int)} {x y x':Ser} {l:List Ev} {e:Ev} (hx:SerOk c x) (h:Fad c o x y) (hy:SerInv c y l) (hL:l.length<1000000) (hp:Go.Proofs.YtjeabebacegikaaGreatDoor.putE c x e=(x',0)):∃y',SerInv c y' (l++[e])∧Fad c o x' y':=by
  obtain ⟨_,he,hlt,_⟩:=serOk_put hx hp
  have hf:Foll (l++[e]):=by
    refine foll_append.2 ⟨hy.foll,⟨by simp[he],by simp⟩,fun a ha b hb => ?_⟩
    simp at hb;subst hb
    rcases hy.last with ⟨k,_⟩ | k
    · rw[k] at ha;cases ha
    · have:=k.le a ha
      rw[h.last] at hlt;omega
  obtain ⟨y',h1,h2⟩:=serInv_next hy hf hL
  obtain ⟨x'',h3,h4⟩:=h.putE hx (serInv_ok hy) h1
  rw[hp] at h3
  injection h3 with h3 _
  subst h3
  exact ⟨y',h2,h4⟩
theorem EvInv.write {N:Nat} {s:Sta} (h:EvInv N s) (hb:N<1000000) (l:List Lab) (e:Ev):EvInv (N+1) (if (writeV s l e).2=0 then (writeV s l e).1 else s):=by
  by_cases h0:(writeV s l e).2=0
  case neg=>rw[if_neg h0];exact h.mono (Nat.le_succ N)
  rw[if_pos h0]
  have hw:writeV s l e=((writeV s l e).1,0):=Prod.ext rfl h0
  have hww:=writeV_w h.w l e
  generalize (writeV s l e).1=t at *
  refine ⟨staOk_write hw,hww,?_⟩
  obtain ⟨hg,i,x,b,y,hp,hput,rfl,_⟩:=write_ok hw
  obtain ⟨p1,_⟩:=place_ok hg hp
  intro z hz
  rcases List.mem_or_eq_of_mem_set hz with k | k
  · exact (h.ser z k).imp id fun ⟨y,l,h1,h2,h3,h4⟩=>⟨y,l,h1,h2,by omega,h4⟩
  · subst k
    right
    cases hp with
    | found hf hx hl hlv ht =>
      obtain ⟨y0,l0,h1,_,h3,h4⟩:=(h.ser x (List.mem_of_getElem? hx)).resolve_left hlv.1
      obtain ⟨y',q1,q2⟩:=fad_put p1 h4 h1 (by omega) hput
      exact ⟨y',_,q1,by simp,by simp;omega,q2⟩
    | room hf hs hr =>
      obtain ⟨y',q1,q2⟩:=fad_put (o:=olds s.1 s.2.1) p1 (.refl _ _ _) (new_inv hg.st.whole.1 hg.lab) (by simp) hput
      exact ⟨y',_,q1,by simp,by simp,q2⟩
theorem EvInv.sweep {N:Nat} {s:Sta} (h:EvInv N s):EvInv N (sweptS s):=⟨swept_ok h.ok,sweptS_w h.w,h.ser⟩
theorem EvInv.clean {N:Nat} {s:Sta} (h:EvInv N s):EvInv N (cleanS s):=by
  refine ⟨clean_ok h.ok,cleanS_w h.w,fun z hz => ?_⟩
  obtain ⟨x,hx,e⟩:=List.mem_map.1 hz
  unfold cleanP at e
  split at e
  · rename_i hl
    obtain ⟨y,l,h1,h2,h3,h4⟩:=(h.ser x hx).resolve_left hl.1
    rw[←e]
    exact .inr ⟨y,l,h1,h2,h3,h4.clean⟩
  · exact .inl e.symm
def OldE (c:Conf) (o:Int×(Int×Int)) (e:Ev):Prop:=e.1 / c.2.1.1<o.1∧e.1 / c.2.1.2.1<o.2.1∧e.1 / c.2.1.2.2<o.2.2
structure Rel (c:Conf) (now:Int) (N:Nat) (x y:Ser):Prop where
  lab:x.1=y.1
  last:x.2.1=y.2.1
  ex:∃lx y0 ly pre,SerInv c x lx∧SerInv c y0 ly∧ly≠[]∧lx.length≤N∧Fad c (olds c now) y y0∧lx=pre++ly∧∀e∈pre,OldE c (olds c now) e
theorem Rel.mono {c:Conf} {now now':Int} {N M:Nat} {x y:Ser} (h:Rel c now N x y) (h0:(olds c now).1≤(olds c now').1) (h1:(olds c now).2.1≤(olds c now').2.1) (h2:(olds c now).2.2≤(olds c now').2.2) (hm:N≤M):Rel c now' M x y:=by
  obtain ⟨lx,y0,ly,pre,q1,q2,q3,q4,q5,q6,q7⟩:=h.ex
  exact ⟨h.lab,h.last,lx,y0,ly,pre,q1,q2,q3,by omega,q5.mono h0 h1 h2,q6,fun e he=>by obtain ⟨a,b,d⟩:=q7 e he;exact ⟨by omega,by omega,by omega⟩⟩
theorem find_here {s:Sta} (h:StaOk s) {i:Nat} {x:Ser} (hx:s.2.2.2[i]? = some x) (hl:LvX s x):findV s x.1=some i :=
  findV_some.2 ⟨x,hx,rfl,hl,fun j hj y hy k=>((h.right i x hx).resolve_left hl.1).2.2.2 ⟨hl,j,hj,y,hy,k.2,k.1⟩⟩
theorem find_uniq {s:Sta} (h:StaOk s) {i j:Nat} {x y:Ser} (hx:s.2.2.2[i]? = some x) (hlx:LvX s x) (hy:s.2.2.2[j]? = some y) (hly:LvX s y) (e:x.1=y.1):i=j:=by
  have h1:=find_here h hx hlx
  have h2:=find_here h hy hly
  rw[e,h2] at h1
  injection h1 with h1
  exact h1.symm
structure Sim (N:Nat) (s t:Sta):Prop where
  c:s.1=t.1
  clk:s.2.1=t.2.1
  hs:StaInv N s
  ok:StaOk t
  w:StaW t
  sw:s.2.2.1 = -1
  len:s.2.2.2.length=t.2.2.2.length
  rel:∀(j:Nat) (y:Ser),t.2.2.2[j]? = some y→LvX t y→∃(i:Nat) (x:Ser),s.2.2.2[i]? = some x∧x≠ser0∧Rel s.1 s.2.1 N x y
  back:∀(i:Nat) (x:Ser),s.2.2.2[i]? = some x→x≠ser0→(∃(j:Nat) (y:Ser),t.2.2.2[j]? = some y∧LvX t y∧y.1=x.1)∨deadV s.1 x.2.1 s.2.1=true
theorem Sim.lv {N:Nat} {s t:Sta} (h:Sim N s t) (x:Ser):LvX s x↔x≠ser0:=⟨fun k=>k.1,fun k=>⟨k,.inl h.sw⟩⟩
theorem Sim.found {N:Nat} {s t:Sta} (h:Sim N s t) {l:List Lab} {j:Nat} {y:Ser} (hf:findV t l=some j) (hy:t.2.2.2[j]? = some y):LvX t y∧y.1=l∧∃(i:Nat) (x:Ser),findV s l=some i∧s.2.2.2[i]? = some x∧x≠ser0∧Rel s.1 s.2.1 N x y:=by
  obtain ⟨y',hy',hl,hlv,_⟩:=findV_some.1 hf
  rw[hy] at hy';injection hy' with hy';subst hy'
  obtain ⟨i,x,hx,hn,hr⟩:=h.rel j y hy hlv
  have:=find_here h.hs.ok hx ((h.lv x).2 hn)
  rw[hr.lab,hl] at this
  exact ⟨hlv,hl,i,x,this,hx,hn,hr⟩
theorem Sim.lost {N:Nat} {s t:Sta} (h:Sim N s t) {l:List Lab} (hf:findV t l=none):findV s l=none∨∃(i:Nat) (x:Ser),findV s l=some i∧s.2.2.2[i]? = some x∧x≠ser0∧x.1=l∧deadV s.1 x.2.1 s.2.1=true:=by
  cases hs:findV s l with
  | none=>exact .inl rfl
  | some i =>
    obtain ⟨x,hx,hl,hlv,_⟩:=findV_some.1 hs
    rcases h.back i x hx hlv.1 with ⟨j,y,hy,hly,e⟩ | k
    · exact absurd ⟨by rw[e,hl],hly⟩ (findV_none.1 hf y (List.mem_of_getElem? hy))
    · exact .inr ⟨i,x,rfl,hx,hlv.1,hl,k⟩
theorem Sim.mono {N M:Nat} {s t:Sta} (h:Sim N s t) (hm:N≤M):Sim M s t :=
  ⟨h.c,h.clk,inv_mono h.hs hm,h.ok,h.w,h.sw,h.len,fun j y hy hl=>by obtain ⟨i,x,h1,h2,h3⟩:=h.rel j y hy hl;exact ⟨i,x,h1,h2,h3.mono (Int.le_refl _) (Int.le_refl _) (Int.le_refl _) hm⟩,h.back⟩
theorem Sim.one {N:Nat} {s t:Sta} (h:Sim N s t) (k a b:Int):oneV s k a b=oneV t k a b:=by unfold oneV;rw[h.c,h.clk]
theorem Sim.which {N:Nat} {s t:Sta} (h:Sim N s t) (a b:Int):∀(d:Nat) (k why:Int),whichV s a b d k why=whichV t a b d k why:=by
  intro d
  induction d with
  | zero=>intro k why;rfl
  | succ d ih=>intro k why;unfold whichV;rw[h.one,ih]
theorem Sim.tier {N:Nat} {s t:Sta} (h:Sim N s t) (q a b:Int):tierV s q a b=tierV t q a b:=by
  unfold tierV;rw[if_pos h.hs.ok,if_pos h.ok,h.which,h.one]
theorem rng_old {c:Conf} {now:Int} {k:Int} (h0:0≤k) (h2:k≤2) {pre ly:List Ev} (h:∀e∈pre,OldE c (olds c now) e) {i j:Int} (hi:(oldV now (tierW c k) (tierN c k)).1≤i):rng (tierW c k) (pre++ly) i j=rng (tierW c k) ly i j:=by
  unfold rng
  rw[List.filter_append,List.filter_eq_nil_iff.2,List.nil_append]
  intro e he
  have:=h e he
  unfold OldE olds at this
  obtain ⟨a0,a1,a2⟩:=this
  unfold tierW tierN at hi
  unfold tierW
  simp only[decide_eq_true_eq]
  rcases (by omega:k=0∨k=1∨k=2) with e | e | e
  · subst e;rw[if_pos rfl,if_pos rfl] at hi;rw[if_pos rfl];simp only at a0;omega
  · subst e;rw[if_neg (by decide),if_pos rfl,if_neg (by decide),if_pos rfl] at hi;rw[if_neg (by decide),if_pos rfl];simp only at a1;omega
  · subst e;rw[if_neg (by decide),if_neg (by decide),if_neg (by decide),if_neg (by decide)] at hi;rw[if_neg (by decide),if_neg (by decide)];simp only at a2;omega
theorem Sim.cell {N:Nat} {s t:Sta} (h:Sim N s t) (l:List Lab) {k a b:Int} (h0:0≤k) (h2:k≤2) (ho:oneV s k a b=0):cellQ s l k a b=cellQ t l k a b:=by
  obtain ⟨s1,s2⟩:=one_ok ho
  obtain ⟨wp,rp,_,_,e,e1,e2⟩:=span_ok s1
  rw[e] at s2
  unfold cellQ
  cases hf:findV t l with
  | some j =>
    obtain ⟨y,hy,_,hlv,_⟩:=findV_some.1 hf
    obtain ⟨_,_,i,x,fs,hx,hn,hr⟩:=h.found hf hy
    obtain ⟨lx,y0,ly,pre,q1,q2,q3,q4,q5,q6,q7⟩:=hr.ex
    have hlx:lx≠[]:=by rw[q6];simp[q3]
    have hok:=(live_ok h.ok (List.mem_of_getElem? hy) hlv).1
    rw[←h.c] at hok
    rw[fs]
    simp only[hx,hy,Option.getD_some]
    have kx:=kept_lt h.hs.ok hx hn h0 h2 ho
    rw[←h.c,inv_rangeK q1 hlx h0 h2 e1 e2 kx,q5.rangeK hok (serInv_ok q2) h0 h2 s2,inv_rangeK q2 q3 h0 h2 e1 e2 (by rw[←q5.last,←hr.last];exact kx),q6,rng_old h0 h2 q7 s2]
  | none =>
    rcases h.lost hf with k0 | ⟨i,x,fs,hx,hn,_,hd⟩
    · rw[k0]
    · rw[fs]
      simp only[hx,Option.getD_some]
      rw[dead_range h.hs.ok (live_ok h.hs.ok (List.mem_of_getElem? hx) ((h.lv x).2 hn)).1 hd h0 h2 e1 e2 s2]
theorem Sim.doQ {N:Nat} {s t:Sta} (h:Sim N s t) (l:List Lab) (q a b:Int):doQ s l q a b=doQ t l q a b:=by
  unfold Go.Proofs.YtjeabebacegikaaGreatDoor.doQ
  rw[if_pos h.hs.ok,if_pos h.ok]
  by_cases hl:LabOk l
  case neg=>rw[if_neg hl,if_neg hl]
  rw[if_pos hl,if_pos hl,←h.tier]
  by_cases ht:(tierV s q a b).2=0
  case neg=>rw[if_neg ht,if_neg ht]
  obtain ⟨_,t1,t3,ho,_⟩:=tier_ok ht
  rw[if_pos ht,if_pos ht,h.cell l (by omega) (by omega) ho]
theorem Sim.tick {N:Nat} {s t:Sta} (h:Sim N s t) (now:Int):Sim N (tickV s now).1 (tickV t now).1:=by
  have hi:=inv_tick h.hs now
  have hw:=tickV_w h.w now
  unfold tickV at hi hw ⊢
  by_cases hm:Moves s now
  · have hm':Moves t now:=⟨h.ok,by rw[←h.clk];exact hm.2.1,hm.2.2⟩
    rw[if_pos hm] at hi ⊢
    rw[if_pos hm'] at hw ⊢
    have hc:=h.hs.ok.clock.1
    obtain ⟨m1,m2,m3⟩:=olds_mono h.hs.ok (Int.le_of_lt hm.2.1) hm.2.2
    refine ⟨h.c,rfl,hi,tick_ok hm',hw,h.sw,h.len,fun j y hy hl => ?_,fun i x hx hn => ?_⟩
    · obtain ⟨i,x,h1,h2,h3⟩:=h.rel j y hy hl
      exact ⟨i,x,h1,h2,h3.mono m1 m2 m3 (Nat.le_refl _)⟩
    · rcases h.back i x hx hn with k | k
      · exact .inl k
      · exact .inr (dead_mono hc (show TimeP now from ⟨by have:=hc.1;have:=hm.2.1;omega,hm.2.2⟩) (Int.le_of_lt hm.2.1) k)
  · have hm':¬Moves t now:=fun k=>hm ⟨h.hs.ok,by rw[h.clk];exact k.2.1,k.2.2⟩
    rw[if_neg hm,if_neg hm']
    exact h
theorem Sim.sweep {N:Nat} {s t:Sta} (h:Sim N s t):Sim N s (sweptS t):=by
  refine ⟨h.c,h.clk,h.hs,swept_ok h.ok,sweptS_w h.w,h.sw,h.len,fun j y hy hl=>h.rel j y hy (swept_of h.ok hl),fun i x hx hn => ?_⟩
  rcases h.back i x hx hn with ⟨j,y,hy,hly,e⟩ | k
  · by_cases hl:LvX (sweptS t) y
    · exact .inl ⟨j,y,hy,hl,e⟩
    · right
      obtain ⟨i',x',hx',hn',hr⟩:=h.rel j y hy hly
      have:=find_uniq h.hs.ok hx' ((h.lv x').2 hn') hx ((h.lv x).2 hn) (by rw[hr.lab,e])
      subst this
      rw[hx] at hx';injection hx' with hx';subst hx'
      rw[hr.last,h.c,h.clk]
      cases hd:deadV t.1 y.2.1 t.2.1 with
      | true=>rfl
      | false=>exact absurd ((swept_lv h.ok).2 ⟨hly.1,hd⟩) hl
  · exact .inr k
theorem Sim.clean {N:Nat} {s t:Sta} (h:Sim N s t):Sim N s (cleanS t):=by
  refine ⟨h.c,h.clk,h.hs,clean_ok h.ok,cleanS_w h.w,h.sw,by simpa [cleanS] using h.len,fun j y' hy hl => ?_,fun i x hx hn => ?_⟩
  · have hy:(t.2.2.2.map (cleanP t))[j]? = some y':=hy
    rw[List.getElem?_map] at hy
    cases h1:t.2.2.2[j]? with
    | none=>rw[h1] at hy;cases hy
    | some y =>
      rw[h1] at hy
      simp only[Option.map_some,Option.some.injEq] at hy
      subst hy
      have hl:LvX t (cleanP t y):=hl
      have hly:=(cleanP_lv h.ok (List.mem_of_getElem? h1)).1 hl
      obtain ⟨i,x,hx,hn,hr⟩:=h.rel j y h1 hly
      refine ⟨i,x,hx,hn,?_⟩
      have e:cleanP t y=cleanX s.1 s.2.1 y:=by unfold cleanP;rw[if_pos hly,h.c,h.clk]
      rw[e]
      obtain ⟨lx,y0,ly,pre,q1,q2,q3,q4,q5,q6,q7⟩:=hr.ex
      exact ⟨hr.lab,hr.last,lx,y0,ly,pre,q1,q2,q3,q4,q5.clean,q6,q7⟩
  · rcases h.back i x hx hn with ⟨j,y,hy,hly,e⟩ | k
    · refine .inl ⟨j,cleanP t y,?_,(cleanP_lv h.ok (List.mem_of_getElem? hy)).2 hly,?_⟩
      · show (t.2.2.2.map (cleanP t))[j]? = _
        rw[List.getElem?_map,hy];rfl
      · unfold cleanP;rw[if_pos hly];exact e
    · exact .inr k
end Go.Proofs.YtjeabebacegikaaGreatDoor
