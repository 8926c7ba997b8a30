/-
  Plain proofs about the functions of this seat, part 2 of 3.
-/
import Derived.Test.YtjeabebacegikaaGreatDoorQ1
import Derived.Test.YtjeabebacegikaaGreatDoorTr
import Derived.Test.YtjeabebacegikaaGreatDoorFlatM3
namespace Go.Proofs.YtjeabebacegikaaGreatDoor
open Go.Flat Go.Plim
set_option linter.unusedVariables false
set_option linter.unusedSimpArgs false
theorem allE_okc (l:List Cel):∀c,CellOk c→CellOk (allE c l).1:=by
  induction l with
  | nil=>intro c h;exact h
  | cons x l ih =>
    intro c h
    simp only[allE]
    split
    · rename_i k;exact ih _ (mrgE_ok k).2.2.2.2
    · exact ok_z0
theorem tfold_okc (l:List Slo) (i k:Int):CellOk (tfold l i k).1:=by
  unfold tfold
  split
  · exact ok_z0
  · exact allE_okc _ _ ok_z0
theorem FoldOk.lens {c:Conf} {s:Trs} (h:FoldOk c s):s.1.length≤1000000∧s.2.1.length≤1000000∧s.2.2.length≤1000000:=by
  have:=h.t0.l1;have:=h.t1.l1;have:=h.t2.l1;omega
theorem trs_wf {s:Trs} (h:Wf (.wrap (.pair (.slice tySlot) (.pair (.slice tySlot) (.slice tySlot)))) s):TrsW s:=by
  obtain ⟨h1,h2,h3⟩:=h
  exact ⟨slos_wf h1,slos_wf h2,slos_wf h3⟩
abbrev Ser:=List Lab×(Int×(Rw×(Trs×Slo)))
structure SerW (s:Ser):Prop where
  last:I64 s.2.1
  raw:RawW s.2.2.1
  trs:TrsW s.2.2.2.1
  opn:SloW s.2.2.2.2
def NoBehind (l:List Slo) (i:Int):Prop:=∀s∈l,0<s.2.1→s.1<i
noncomputable instance (l i):Decidable (NoBehind l i):=Classical.propDecidable _
structure Fresh (s:Ser):Prop where
  raw:s.2.2.1.2.2=[]
  opn:s.2.2.2.2=s0
  b0:NoBehind s.2.2.2.1.1 0
  b1:NoBehind s.2.2.2.1.2.1 0
  b2:NoBehind s.2.2.2.1.2.2 0
structure EndsP (c:Conf) (s:Ser):Prop where
  last:∃e,s.2.2.1.2.2.getLast? = some e∧e.1=s.2.1
  ol:s.2.2.2.2.2.2.2.1.1=s.2.1
  fit:FitsP s.2.2.2.2.2 c.2.1.1 s.2.2.2.2.1
  b0:NoBehind s.2.2.2.1.1 (s.2.1 / c.2.1.1)
  b1:NoBehind s.2.2.2.1.2.1 (s.2.1 / c.2.1.2.1)
  b2:NoBehind s.2.2.2.1.2.2 (s.2.1 / c.2.1.2.2)
structure SerOk (c:Conf) (s:Ser):Prop where
  fold:FoldOk c s.2.2.2.1
  lab:LabOk s.1
  raw:RawOk s.2.2.1 c.1
  st:(s.2.1 = -1∧Fresh s)∨(s.2.1 ≠ -1∧EndsP c s)
noncomputable instance (s):Decidable (Fresh s):=Classical.propDecidable _
noncomputable instance (c s):Decidable (EndsP c s):=Classical.propDecidable _
noncomputable instance (c s):Decidable (SerOk c s):=Classical.propDecidable _
theorem contains_slot (n:Nat) {del:TSlot×Unit→Option Bool} {p:Slo→Bool} (hd:∀x,del (x,())=some (p x)) (l:List Slo) (hL:l.length≤1000000):sl_ContainsFunc_Slot (n+2) l del=some (l.any p):=by
  rw[sl_ContainsFunc_Slot_eq,sl_IndexFunc_Slot_eq]
  rcases index_l hd n l hL l [] loopFuel 0 l.length rfl rfl rfl (by unfold loopFuel;omega) with ⟨h1,h2⟩ | ⟨A,x,B,h1,h2,h3,h4⟩
  · rw[h1]
    have:l.any p=false:=by rw[List.any_eq_false];intro x hx;simp[h2 x hx]
    rw[this];rfl
  · rw[h4]
    have:l.any p=true:=List.any_eq_true.2 ⟨x,by rw[h1];simp,h3⟩
    simp only[obs,selim_inr,this,Int.zero_add]
    rw[decide_eq_true (by omega)]
theorem series_behind_val (n:Nat) (l:List Slo) (i:Int) (hL:l.length≤1000000):series_behind (n+3) l i=some (!decide (NoBehind l i)):=by
  rw[series_behind_eq,contains_slot (p:=fun s=>decide (0<s.2.1∧i≤s.1)) n (fun x=>by
    show series_behind_1 (n+1+1) x i=_
    rw[series_behind_1_eq]
    by_cases h1:0<x.2.1<;>by_cases h2:i≤x.1<;>simp[h1,h2]) l hL]
  simp only[obs]
  refine congrArg some ?_
  by_cases h:NoBehind l i
  · rw[decide_eq_true h]
    rw[List.any_eq_false.2]
    · rfl
    · intro x hx k
      have:=of_decide_eq_true k
      have:=h x hx this.1
      omega
  · rw[decide_eq_false h]
    have:∃x∈l,0<x.2.1∧i≤x.1:=Classical.byContradiction fun k=>h fun x hx hc=>by
      rcases Int.lt_or_le x.1 i with q | q
      · exact q
      · exact absurd ⟨x,hx,hc,q⟩ k
    obtain ⟨x,hx,hq⟩:=this
    rw[List.any_eq_true.2 ⟨x,hx,decide_eq_true hq⟩]
    rfl
theorem kept_fresh (n:Nat) (c:Conf) {s:Ser} (hf:FoldOk c s.2.2.2.1):srk_fresh (n+4) (c,s)=some (decide (Fresh s)):=by
  obtain ⟨l0,l1,l2⟩:=hf.lens
  rw[srk_fresh_eq,sloEq0,series_behind_val n _ _ l0,series_behind_val n _ _ l1,series_behind_val n _ _ l2]
  simp only[obs,Bool.not_not,tfd]
  by_cases h1:(s.2.2.1.2.2.length:Int)=0
  case neg=>rw[if_neg h1,decide_eq_false (fun k:Fresh s=>h1 (by rw[k.raw];rfl))]
  rw[if_pos h1]
  by_cases h2:s.2.2.2.2=s0
  case neg=>rw[if_neg h2,decide_eq_false (fun k:Fresh s=>h2 k.opn)]
  rw[if_pos h2]
  by_cases h3:NoBehind s.2.2.2.1.1 0
  case neg=>rw[if_neg h3,decide_eq_false (fun k:Fresh s=>h3 k.b0)]
  rw[if_pos h3]
  by_cases h4:NoBehind s.2.2.2.1.2.1 0
  case neg=>rw[if_neg h4,decide_eq_false (fun k:Fresh s=>h4 k.b1)]
  rw[if_pos h4]
  refine congrArg some (decide_eq_decide.2 ⟨fun k=>⟨List.length_eq_zero_iff.1 (by omega),h2,h3,h4,k⟩,fun k=>k.b2⟩)
theorem last_ok {c:Conf} {s:Ser} (hr:RawOk s.2.2.1 c.1) {e:Ev} (he:s.2.2.1.2.2.getLast? = some e):EvOk e:=hr.f.ok e (List.mem_of_getLast? he)
theorem kept_ends (n:Nat) (c:Conf) {s:Ser} (hf:FoldOk c s.2.2.2.1) (hr:RawOk s.2.2.1 c.1) (hw:SerW s):srk_ends (n+7) (c,s)=some (decide (EndsP c s)):=by
  obtain ⟨l0,l1,l2⟩:=hf.lens
  have hg:=hf.cok.rng
  have hlen:=hr.len;have hm1:=hr.m1
  rw[srk_ends_eq,raw_last (n+5) s.2.2.1 (by omega)]
  cases hl:s.2.2.1.2.2.getLast? with
  | none =>
    simp only[obs]
    rw[show (decide ((3:Int)=0))=false from rfl,tff,decide_eq_false]
    intro k
    obtain ⟨e,he,_⟩:=k.last
    rw[hl] at he;cases he
  | some e =>
    have heo:=last_ok hr hl
    simp only[obs,decide_true,tft,tfd,if_true]
    by_cases h1:e.1=s.2.1
    case neg =>
      rw[if_neg h1,decide_eq_false]
      intro k
      obtain ⟨e',he,hq⟩:=k.last
      rw[hl] at he;injection he with he;subst he;exact h1 hq
    rw[if_pos h1]
    by_cases h2:s.2.2.2.2.2.2.2.1.1=s.2.1
    case neg=>rw[if_neg h2,decide_eq_false (fun k:EndsP c s=>h2 k.ol)]
    have q0:=quo_ev heo hg.w0.1;have q1:=quo_ev heo hg.w1.1;have q2:=quo_ev heo hg.w2.1
    rw[h1] at q0 q1 q2
    rw[if_pos h2,tier_fits n hw.opn.c]
    simp only[obs,tfd,q0,q1,q2,series_behind_val (n+3) _ _ l0,series_behind_val (n+3) _ _ l1,series_behind_val (n+3) _ _ l2,Bool.not_not,if_neg (show ¬(c.2.1.1=0) by have:=hg.w0;omega),if_neg (show ¬(c.2.1.2.1=0) by have:=hg.w1;omega),if_neg (show ¬(c.2.1.2.2=0) by have:=hg.w2;omega)]
    by_cases h3:FitsP s.2.2.2.2.2 c.2.1.1 s.2.2.2.2.1
    case neg=>rw[if_neg h3,decide_eq_false (fun k:EndsP c s=>h3 k.fit)]
    rw[if_pos h3]
    by_cases h4:NoBehind s.2.2.2.1.1 (s.2.1 / c.2.1.1)
    case neg=>rw[if_neg h4,decide_eq_false (fun k:EndsP c s=>h4 k.b0)]
    rw[if_pos h4]
    by_cases h5:NoBehind s.2.2.2.1.2.1 (s.2.1 / c.2.1.2.1)
    case neg=>rw[if_neg h5,decide_eq_false (fun k:EndsP c s=>h5 k.b1)]
    rw[if_pos h5]
    refine congrArg some (decide_eq_decide.2 ⟨fun k=>⟨⟨e,hl,h1⟩,h2,h3,h4,h5,k⟩,fun k=>k.b2⟩)
theorem z08 (p:Prop) [Decidable p]:((if p then (0:Int) else 8)=0)↔p:=by by_cases h:p<;>simp[h]
theorem series_open_val (n:Nat) (c:Conf) {s:Ser} (hw:SerW s):series_open (n+10) c s=some (if SerOk c s then (some (c,s),0) else (none,2)):=by
  rw[series_open_eq,fold_check n c hw.trs,label_check (n+3),raw_check (n+4) _ _ hw.raw]
  simp only[obs,tfn,tfd]
  by_cases h1:FoldOk c s.2.2.2.1
  case neg=>rw[if_neg (mt (z02 _).1 h1),if_neg (fun k:SerOk c s=>h1 k.fold)]
  by_cases h2:LabOk s.1
  case neg=>rw[if_pos ((z02 _).2 h1),if_neg (mt (z08 _).1 h2),if_neg (fun k:SerOk c s=>h2 k.lab)]
  by_cases h3:RawOk s.2.2.1 c.1
  case neg=>rw[if_pos ((z02 _).2 h1),if_pos ((z08 _).2 h2),if_neg (mt (z02 _).1 h3),if_neg (fun k:SerOk c s=>h3 k.raw)]
  rw[if_pos ((z02 _).2 h1),if_pos ((z08 _).2 h2),if_pos ((z02 _).2 h3),kept_fresh (n+5) c h1,kept_ends (n+2) c h1 h3 hw]
  simp only[obs,tfd]
  by_cases h4:s.2.1 = -1
  · rw[if_pos h4]
    by_cases h5:Fresh s
    · rw[if_pos h5,if_pos (⟨h1,h2,h3,.inl ⟨h4,h5⟩⟩:SerOk c s)]
    · rw[if_neg h5,if_pos h4,if_neg (fun k:SerOk c s=>by
        rcases k.st with q | q
        · exact h5 q.2
        · exact q.1 h4)]
  · rw[if_neg h4,if_neg h4]
    by_cases h5:EndsP c s
    · rw[if_pos h5,if_pos (⟨h1,h2,h3,.inr ⟨h4,h5⟩⟩:SerOk c s)]
    · rw[if_neg h5,if_neg (fun k:SerOk c s=>by
        rcases k.st with q | q
        · exact h4 q.1
        · exact h5 q.2)]
theorem noBehind_iff {l:List Slo} {w:Int} (h:TierOk l w) (i:Int):NoBehind l i↔∀s∈tall l,s.1<i:=by
  constructor
  · intro k s hs
    have:=(tall_N h hs).n1
    exact k s (mem_tall.1 hs).1 (by omega)
  · intro k s hs hc
    exact k s (mem_tall.2 ⟨hs,fun e=>by rw[e] at hc;simp[s0,z0] at hc⟩)
theorem nn {α:Type} {a b:α} (h:a=b):¬(a≠b):=fun k=>k h
def ser0:Ser:=([],(0,(r0w,(([],([],[])),s0))))
end Go.Proofs.YtjeabebacegikaaGreatDoor

namespace Go.Plim
set_option linter.unusedVariables false
def below (w:Int) (l:List Ev) (t:Int):List Ev:=l.filter fun e=>decide (e.1 / w<t / w)
structure EndsAt (l:List Ev) (t:Int):Prop where
  foll:Foll l
  le:∀e∈l,e.1≤t
  last:∃e∈l,e.1=t
theorem edvm {t a b:Int} (ha:1≤a) (hb:1≤b) (hm:b % a=0):t / a*a / b=t / b∧t / a / (b / a)=t / b:=by
  have e:a*(b / a)=b:=by have:=Int.mul_ediv_add_emod b a;omega
  have h1:t / a / (b / a)=t / b:=by rw[Int.ediv_ediv_of_nonneg (by omega),e]
  refine ⟨?_,h1⟩
  rw[←h1]
  conv=>lhs;rw[←e,Int.mul_comm (t / a) a]
  exact Int.mul_ediv_mul_of_pos _ _ (by omega)
end Go.Plim
namespace Go.Proofs.YtjeabebacegikaaGreatDoor
open Go.Flat Go.Plim
structure FInv (c:Conf) (s:Trs) (l:List Ev) (t:Int):Prop where
  ok:FoldOk c s
  i0:TierInv s.1 c.2.1.1 (below c.2.1.1 l t)
  i1:TierInv s.2.1 c.2.1.2.1 (below c.2.1.2.1 l t)
  i2:TierInv s.2.2 c.2.1.2.2 (below c.2.1.2.2 l t)
end Go.Proofs.YtjeabebacegikaaGreatDoor
namespace Go.Proofs.YtjeabebacegikaaGreatDoor
open Go.Flat Go.Plim
set_option linter.unusedVariables false
set_option linter.unusedSimpArgs false
theorem allE_up {w:Int}:∀(L:List Slo) (c:Cel) (lo:Int),Up L→(∀s∈L,FitsP s.2 w s.1∧lo≤s.1)→CellOk c→(c=z0∨c.2.2.1.1 / w<lo)→(allE c (L.map (·.2))).2=0:=by
  intro L
  induction L with
  | nil=>intro c lo _ _ _ _;rfl
  | cons s L ih =>
    intro c lo hu hs hc hl
    unfold Up at hu
    rw[List.pairwise_cons] at hu
    obtain ⟨hf,h1⟩:=hs s (by simp)
    have ha:Ahead c s.2:=by
      rcases hl with h | h
      · exact .inl h
      · refine .inr (.inr ?_)
        have e:=hf.f
        rcases Int.lt_or_le c.2.2.1.1 s.2.2.1.1 with q | q
        · exact q
        · have:=Int.ediv_le_ediv (c:=w) (by have:=hf.w0;omega) q
          omega
    have em:mrgE c s.2=(mrg c s.2,0):=by unfold mrgE;rw[if_pos (And.intro hc hf.n.ok),if_pos ha]
    simp only[List.map_cons,allE]
    rw[em,if_pos rfl]
    refine ih _ (s.1+1) hu.2 (fun x hx=>⟨(hs x (by simp[hx])).1,by have:=hu.1 x hx;omega⟩) (mrg_ok hc hf.n.ok ha) (.inr ?_)
    have el:(mrg c s.2).2.2.1.1=s.2.2.2.1.1:=by
      unfold mrg
      by_cases k:c=z0
      · rw[if_pos k]
      · rw[if_neg k,if_neg hf.n.ne]
    rw[el,hf.l];omega
theorem tfold_none {l:List Slo} {w i k:Int} (h:TierOk l w) (h0:0≤i) (hik:i≤k):(tfold l i k).2=0:=by
  unfold tfold
  rw[if_neg (by omega)]
  unfold within
  refine allE_up (w:=w) _ z0 0 ((tall_up h).filter _) (fun s hs => ?_) ok_z0 (.inl rfl)
  have:=(tall_fits h (List.mem_filter.1 hs).1).1
  exact ⟨this,this.i0.1⟩
noncomputable def now1 (c:Conf) (s:Ser):Cel×Int:=mrgE (tfold s.2.2.2.1.1 (s.2.1 / c.2.1.2.1*(c.2.1.2.1 / c.2.1.1)) (s.2.1 / c.2.1.1)).1 s.2.2.2.2.2
noncomputable def now2 (c:Conf) (s:Ser):Cel×Int :=
  if (now1 c s).2≠0 then (z0,(now1 c s).2) else mrgE (tfold s.2.2.2.1.2.1 (s.2.1 / c.2.1.2.2*(c.2.1.2.2 / c.2.1.2.1)) (s.2.1 / c.2.1.2.1)).1 (now1 c s).1
theorem tfold_w (l:List Slo) (i k:Int):CelW (tfold l i k).1 := .of (tfold_okc l i k)
theorem serOk_ends {c:Conf} {s:Ser} (h:SerOk c s) (hn:¬(s.2.1 = -1)):EndsP c s∧∃e,EvOk e∧e.1=s.2.1:=by
  rcases h.st with q | q
  · exact absurd q.1 hn
  · obtain ⟨e,he,h1⟩:=q.2.last
    exact ⟨q.2,e,last_ok h.raw he,h1⟩
theorem over_range {a b t:Int} (ha:1≤a∧a≤1099511627776) (hb:1≤b∧b≤1099511627776) (hm:b % a=0) (ht:0≤t∧t<35184372088832) :
    0≤t / b*(b / a)∧t / b*(b / a)≤t / a∧t / a<35184372088832∧0≤t / a:=by
  have h1:=(edvm (t:=t) ha.1 hb.1 hm).2
  have h2:0≤t / b:=Int.ediv_nonneg ht.1 (by omega)
  have h3:0≤b / a:=Int.ediv_nonneg (by omega) (by omega)
  have h4:0≤t / a:=Int.ediv_nonneg ht.1 (by omega)
  have h5:t / a≤t:=Int.ediv_le_self _ ht.1
  refine ⟨Int.mul_nonneg h2 h3,?_,by omega,h4⟩
  have h6:1≤b / a:=by
    have e:a*(b / a)=b:=by have:=Int.mul_ediv_add_emod b a;omega
    rcases Int.lt_or_le 0 (b / a) with q | q
    · omega
    · have:b / a=0:=by omega
      rw[this] at e;omega
  rw[←h1]
  exact Int.ediv_mul_le _ (by omega)
structure At (c:Conf) (s:Ser):Prop where
  l0:0≤s.2.1
  l1:s.2.1<35184372088832
theorem serOk_at {c:Conf} {s:Ser} (h:SerOk c s) (hn:¬(s.2.1 = -1)):0≤s.2.1∧s.2.1<35184372088832:=by
  obtain ⟨_,e,he,h1⟩:=serOk_ends h hn
  rw[←h1];exact ⟨he.t0,he.t1⟩
theorem quo_at {t:Int} (ht:0≤t∧t<35184372088832) {w:Int} (hw:1≤w):IntKind.wrap .i64 (Int.tdiv t w)=t / w:=by
  have:0≤t / w:=Int.ediv_nonneg ht.1 (by omega)
  have:t / w≤t:=Int.ediv_le_self _ ht.1
  rw[tdiv_nn ht.1,w64 (by omega) (by omega)]
theorem nz {w:Int} (h:1≤w):¬(w=0):=by omega
theorem kept_now0 (n:Nat) (c:Conf) (s:Ser):srk_now (n+1) (c,s) 0=some (s.2.2.2.2.2,0):=by rw[srk_now_eq_0]
theorem mrgE_nn (a b:Cel):0≤(mrgE a b).2:=by
  unfold mrgE;split
  · split<;>simp
  · simp
theorem kept_now1 (n:Nat) (c:Conf) {s:Ser} (h:SerOk c s) (hw:SerW s) (hn:¬(s.2.1 = -1)):srk_now (n+19) (c,s) 1=some (now1 c s):=by
  have hr:=h.fold.cok.rng
  have ht:=serOk_at h hn
  obtain ⟨o1,o2,o3,o4⟩:=over_range hr.w0 hr.w1 h.fold.cok.m1 ht
  rw[srk_now_eq_1]
  simp only[tfd,tfn,if_neg (nz hr.w0.1),if_neg (nz hr.w1.1),quo_at ht hr.w0.1,quo_at ht hr.w1.1,quo_w hr.w1 hr.w0.1]
  rw[w64 (by omega) (by omega),tier_fold n h.fold.t0,kept_now0 (n+17)]
  simp only[obs,tfold_none h.fold.t0 o1 o2,if_true,cell_merge (n+12) (tfold_w _ _ _) hw.opn.c]
  rfl
theorem now1_w (c:Conf) (s:Ser):CelW (now1 c s).1:=mrgE_w _ _
theorem kept_now2 (n:Nat) (c:Conf) {s:Ser} (h:SerOk c s) (hw:SerW s) (hn:¬(s.2.1 = -1)):srk_now (n+20) (c,s) 2=some (now2 c s):=by
  have hr:=h.fold.cok.rng
  have ht:=serOk_at h hn
  obtain ⟨o1,o2,o3,o4⟩:=over_range hr.w1 hr.w2 h.fold.cok.m2 ht
  rw[srk_now_eq_2]
  simp only[tfd,tfn,if_neg (nz hr.w1.1),if_neg (nz hr.w2.1),quo_at ht hr.w1.1,quo_at ht hr.w2.1,quo_w hr.w2 hr.w1.1]
  rw[w64 (by omega) (by omega),tier_fold (n+1) h.fold.t1,kept_now1 n c h hw hn]
  simp only[obs,tfold_none h.fold.t1 o1 o2,if_true,cell_merge (n+13) (tfold_w _ _ _) (now1_w c s)]
  unfold now2
  by_cases k:(now1 c s).2=0
  · rw[if_pos k,if_neg (nn k)]
  · have:0≤(now1 c s).2:=mrgE_nn _ _
    rw[if_neg k,if_pos k,if_pos (by omega)];rfl
noncomputable def rangeV (ok:Prop) [Decidable ok] (i j last w:Int) (t:List Slo) (now:Cel×Int):Cel×Int :=
  if ok then (if i<0 then (z0,1) else if j<i then (z0,1) else if last = -1 then (z0,0) else if last / w<i then tfold t i j else if j≤last / w then tfold t i j else if now.2≠0 then (z0,now.2) else mrgE (tfold t i j).1 now.1) else (z0,2)
theorem now2_w (c:Conf) (s:Ser):CelW (now2 c s).1:=by
  unfold now2;split
  · exact celW_z0
  · exact mrgE_w _ _
theorem kept_span0 (n:Nat) (c:Conf) {s:Ser} (h:SerOk c s) (hw:SerW s) {i j:Int} (h0:¬i<0) (hij:¬j<i):srk_span (n+21) (c,s) 0 i j=some (rangeV (SerOk c s) i j s.2.1 c.2.1.1 s.2.2.2.1.1 (s.2.2.2.2.2,0)):=by
  rw[srk_span_eq_0]
  unfold rangeV
  rw[if_pos h,if_neg h0,if_neg hij]
  simp only[tfd,tfn]
  by_cases hn:s.2.1 = -1
  · rw[if_pos hn,if_pos hn];rfl
  have hr:=h.fold.cok.rng
  have ht:=serOk_at h hn
  rw[if_neg hn,if_neg hn,if_neg (nz hr.w0.1),quo_at ht hr.w0.1,tier_fold (n+2) h.fold.t0]
  simp only[obs,tfold_none h.fold.t0 (show 0≤i by omega) (show i≤j by omega),if_true]
  by_cases h2:s.2.1 / c.2.1.1<i
  · rw[if_pos h2,if_pos h2]
  rw[if_neg h2,if_neg h2]
  by_cases h3:j≤s.2.1 / c.2.1.1
  · rw[if_pos h3,if_pos h3]
  rw[if_neg h3,if_neg h3,kept_now0 (n+19) c s]
  simp only[obs,cell_merge (n+14) (tfold_w _ _ _) hw.opn.c]
  rw[if_pos trivial,if_neg (nn rfl)]
theorem series_range0 (n:Nat) (c:Conf) {s:Ser} (hw:SerW s) (i j:Int):series_Range (n+22) c s 0 i j=some (rangeV (SerOk c s) i j s.2.1 c.2.1.1 s.2.2.2.1.1 (s.2.2.2.2.2,0)):=by
  rw[series_Range_eq,series_open_val (n+11) c hw]
  by_cases h:SerOk c s
  case neg=>unfold rangeV;rw[if_neg h,if_neg h];rfl
  rw[if_pos h]
  simp only[obs,oelim_some,decide_true,Bool.not_true,tff,tfd,if_neg (show ¬((0:Int)<0) by omega),if_neg (show ¬((3:Int)≤0) by omega)]
  by_cases h1:i<0
  · unfold rangeV;rw[if_pos h1,if_pos h,if_pos h1];rfl
  by_cases h2:j<i
  · unfold rangeV;rw[if_neg h1,if_pos h2,if_pos h,if_neg h1,if_pos h2];rfl
  rw[if_neg h1,if_neg h2,kept_span0 n c h hw h1 h2];rfl
theorem kept_span1 (n:Nat) (c:Conf) {s:Ser} (h:SerOk c s) (hw:SerW s) {i j:Int} (h0:¬i<0) (hij:¬j<i):srk_span (n+21) (c,s) 1 i j=some (rangeV (SerOk c s) i j s.2.1 c.2.1.2.1 s.2.2.2.1.2.1 (now1 c s)):=by
  rw[srk_span_eq_1]
  unfold rangeV
  rw[if_pos h,if_neg h0,if_neg hij]
  simp only[tfd,tfn]
  by_cases hn:s.2.1 = -1
  · rw[if_pos hn,if_pos hn];rfl
  have hr:=h.fold.cok.rng
  have ht:=serOk_at h hn
  rw[if_neg hn,if_neg hn,if_neg (nz hr.w1.1),quo_at ht hr.w1.1,tier_fold (n+2) h.fold.t1]
  simp only[obs,tfold_none h.fold.t1 (show 0≤i by omega) (show i≤j by omega),if_true]
  by_cases h2:s.2.1 / c.2.1.2.1<i
  · rw[if_pos h2,if_pos h2]
  rw[if_neg h2,if_neg h2]
  by_cases h3:j≤s.2.1 / c.2.1.2.1
  · rw[if_pos h3,if_pos h3]
  rw[if_neg h3,if_neg h3,kept_now1 (n+1) c h hw hn]
  simp only[obs,cell_merge (n+14) (tfold_w _ _ _) (now1_w c s)]
  by_cases h4:(now1 c s).2=0
  · rw[if_pos h4,if_neg (nn h4)]
  · rw[if_neg h4,if_pos h4];rfl
theorem series_range1 (n:Nat) (c:Conf) {s:Ser} (hw:SerW s) (i j:Int):series_Range (n+22) c s 1 i j=some (rangeV (SerOk c s) i j s.2.1 c.2.1.2.1 s.2.2.2.1.2.1 (now1 c s)):=by
  rw[series_Range_eq,series_open_val (n+11) c hw]
  by_cases h:SerOk c s
  case neg=>unfold rangeV;rw[if_neg h,if_neg h];rfl
  rw[if_pos h]
  simp only[obs,oelim_some,decide_true,Bool.not_true,tff,tfd,if_neg (show ¬((1:Int)<0) by omega),if_neg (show ¬((3:Int)≤1) by omega)]
  by_cases h1:i<0
  · unfold rangeV;rw[if_pos h1,if_pos h,if_pos h1];rfl
  by_cases h2:j<i
  · unfold rangeV;rw[if_neg h1,if_pos h2,if_pos h,if_neg h1,if_pos h2];rfl
  rw[if_neg h1,if_neg h2,kept_span1 n c h hw h1 h2];rfl
theorem kept_span2 (n:Nat) (c:Conf) {s:Ser} (h:SerOk c s) (hw:SerW s) {i j:Int} (h0:¬i<0) (hij:¬j<i):srk_span (n+21) (c,s) 2 i j=some (rangeV (SerOk c s) i j s.2.1 c.2.1.2.2 s.2.2.2.1.2.2 (now2 c s)):=by
  rw[srk_span_eq_2]
  unfold rangeV
  rw[if_pos h,if_neg h0,if_neg hij]
  simp only[tfd,tfn]
  by_cases hn:s.2.1 = -1
  · rw[if_pos hn,if_pos hn];rfl
  have hr:=h.fold.cok.rng
  have ht:=serOk_at h hn
  rw[if_neg hn,if_neg hn,if_neg (nz hr.w2.1),quo_at ht hr.w2.1,tier_fold (n+2) h.fold.t2]
  simp only[obs,tfold_none h.fold.t2 (show 0≤i by omega) (show i≤j by omega),if_true]
  by_cases h2:s.2.1 / c.2.1.2.2<i
  · rw[if_pos h2,if_pos h2]
  rw[if_neg h2,if_neg h2]
  by_cases h3:j≤s.2.1 / c.2.1.2.2
  · rw[if_pos h3,if_pos h3]
  rw[if_neg h3,if_neg h3,kept_now2 n c h hw hn]
  simp only[obs,cell_merge (n+14) (tfold_w _ _ _) (now2_w c s)]
  by_cases h4:(now2 c s).2=0
  · rw[if_pos h4,if_neg (nn h4)]
  · rw[if_neg h4,if_pos h4];rfl
theorem series_range2 (n:Nat) (c:Conf) {s:Ser} (hw:SerW s) (i j:Int):series_Range (n+22) c s 2 i j=some (rangeV (SerOk c s) i j s.2.1 c.2.1.2.2 s.2.2.2.1.2.2 (now2 c s)):=by
  rw[series_Range_eq,series_open_val (n+11) c hw]
  by_cases h:SerOk c s
  case neg=>unfold rangeV;rw[if_neg h,if_neg h];rfl
  rw[if_pos h]
  simp only[obs,oelim_some,decide_true,Bool.not_true,tff,tfd,if_neg (show ¬((2:Int)<0) by omega),if_neg (show ¬((3:Int)≤2) by omega)]
  by_cases h1:i<0
  · unfold rangeV;rw[if_pos h1,if_pos h,if_pos h1];rfl
  by_cases h2:j<i
  · unfold rangeV;rw[if_neg h1,if_pos h2,if_pos h,if_neg h1,if_pos h2];rfl
  rw[if_neg h1,if_neg h2,kept_span2 n c h hw h1 h2];rfl
theorem small_l2_3 (n f:Nat) (s:Trs):l14_Small_l2 n (f+1) (s,(3:Int),())=some (.inl ()):=by
  rw[l14_Small_l2_eq,show (decide ((3:Int)<3))=false from rfl,tff]
theorem small_l2_2 (n f:Nat) (s:Trs):l14_Small_l2 n (f+2) (s,(2:Int),())=some (if (40:Int)<s.2.2.length then .inr 0 else .inl ()):=by
  rw[l14_Small_l2_eq,show (decide ((2:Int)<3))=true from rfl,tft,show (decide ((2:Int)=0))=false from rfl,tff,show (decide ((2:Int)=1))=false from rfl,tff,show (decide ((2:Int)=2))=true from rfl,tft]
  rw[show IntKind.wrap .i64 ((2:Int)+1)=3 from rfl,small_l2_3]
  simp only[tfd]
  split<;>rfl
theorem small_l2_1 (n f:Nat) (s:Trs):l14_Small_l2 n (f+3) (s,(1:Int),())=some (if (40:Int)<s.2.1.length∨(40:Int)<s.2.2.length then .inr 0 else .inl ()):=by
  rw[l14_Small_l2_eq,show (decide ((1:Int)<3))=true from rfl,tft,show (decide ((1:Int)=0))=false from rfl,tff,show (decide ((1:Int)=1))=true from rfl,tft]
  rw[show IntKind.wrap .i64 ((1:Int)+1)=2 from rfl,small_l2_2]
  simp only[tfd]
  by_cases h:(40:Int)<s.2.1.length
  · rw[if_pos h,if_pos (.inl h)]
  · rw[if_neg h]
    by_cases h':(40:Int)<s.2.2.length
    · rw[if_pos h',if_pos (.inr h')]
    · rw[if_neg h',if_neg (fun k=>k.elim h h')]
theorem small_l2_0 (n f:Nat) (s:Trs):l14_Small_l2 n (f+4) (s,(0:Int),())=some (if (40:Int)<s.1.length∨(40:Int)<s.2.1.length∨(40:Int)<s.2.2.length then .inr 0 else .inl ()):=by
  rw[l14_Small_l2_eq,show (decide ((0:Int)<3))=true from rfl,tft,show (decide ((0:Int)=0))=true from rfl,tft]
  rw[show IntKind.wrap .i64 ((0:Int)+1)=1 from rfl,small_l2_1]
  simp only[tfd]
  by_cases h:(40:Int)<s.1.length
  · rw[if_pos h,if_pos (.inl h)]
  · rw[if_neg h]
    by_cases h':(40:Int)<s.2.1.length∨(40:Int)<s.2.2.length
    · rw[if_pos h',if_pos (.inr h')]
    · rw[if_neg h',if_neg (fun k=>k.elim h h')]
def Small14 (s:Trs):Prop:=s.1.length≤40∧s.2.1.length≤40∧s.2.2.length≤40
instance (s:Trs):Decidable (Small14 s):=by unfold Small14;infer_instance
theorem l14_small (n:Nat) (s:Trs):l14_Small (n+1) s=some (if Small14 s then 1 else 0):=by
  rw[l14_Small_eq,show loopFuel=(2^70-4)+4 from by decide,small_l2_0]
  by_cases h:Small14 s
  · rw[if_pos h,if_neg (by unfold Small14 at h;omega)];rfl
  · rw[if_neg h,if_pos (by unfold Small14 at h;omega)];rfl
theorem r05_same_l (n:Nat) (l:List Lab) (hL:l.length≤1000000):∀(rest pre:List Lab) (f:Nat) (ix len:Int),l=pre++rest→ix=pre.length→len=l.length→rest.length<f→r05_Same_l4 n f (l,l,len,ix,())=some (.inl ()):=by
  intro rest
  induction rest with
  | nil =>
    intro pre f ix len hl hi hn hf
    obtain ⟨f,rfl⟩:∃g,f=g+1:=⟨f-1,by simp at hf;omega⟩
    rw[r05_Same_l4_eq]
    simp only[tfd,if_neg (idxe hl hi hn)]
  | cons x rest ih =>
    intro pre f ix len hl hi hn hf
    obtain ⟨f,rfl⟩:∃g,f=g+1:=⟨f-1,by simp at hf;omega⟩
    rw[r05_Same_l4_eq]
    simp only[tfd,if_pos (idx hl hi hn),at_mid hl hi,obs,labEq,decide_true,Bool.not_true,tff,idxw hl hi (by omega)]
    exact ih (pre++[x]) f (ix+1) len (idxl hl) (idxs hi) hn (by simp at hf;omega)
structure SerL (s:Ser):Prop where
  l:s.1.length≤1000000
  r:s.2.2.1.2.2.length≤1000000
  a:s.2.2.2.1.1.length≤1000000
  b:s.2.2.2.1.2.1.length≤1000000
  d:s.2.2.2.1.2.2.length≤1000000
theorem series_check (n:Nat) (c:Conf) {s:Ser} (hw:SerW s):series_Check (n+11) c s=some (if SerOk c s then 0 else 2):=by
  rw[series_Check_eq,series_open_val n c hw]
  by_cases h:SerOk c s
  · rw[if_pos h,if_pos h];rfl
  · rw[if_neg h,if_neg h];rfl
theorem small05_l (n:Nat) (l:List Lab) (hL:l.length≤9223372036854775807):∀(rest pre:List Lab) (f:Nat) (ix len:Int),l=pre++rest→ix=pre.length→len=l.length→rest.length<f →
    l05_Small_l2 n f (l,len,ix,())=some (.inl ())∨l05_Small_l2 n f (l,len,ix,())=some (.inr 0):=by
  intro rest
  induction rest with
  | nil =>
    intro pre f ix len hl hi hn hf
    obtain ⟨f,rfl⟩:∃g,f=g+1:=⟨f-1,by simp at hf;omega⟩
    left
    rw[l05_Small_l2_eq]
    simp only[tfd,if_neg (idxe hl hi hn)]
  | cons x rest ih =>
    intro pre f ix len hl hi hn hf
    obtain ⟨f,rfl⟩:∃g,f=g+1:=⟨f-1,by simp at hf;omega⟩
    have hlen:=congrArg List.length hl
    simp at hlen
    rw[l05_Small_l2_eq]
    simp only[tfd,if_pos (idx hl hi hn),at_mid hl hi,obs]
    rw[w64 (x:=ix+1) (by omega) (by omega)]
    by_cases h1:ix=40
    · right;rw[if_pos h1]
    rw[if_neg h1]
    by_cases h2:(1000:Int)<x.1.length
    · right;rw[if_pos h2]
    rw[if_neg h2]
    by_cases h3:(1000:Int)<x.2.length
    · right;rw[if_pos h3]
    rw[if_neg h3]
    exact ih (pre++[x]) f (ix+1) len (idxl hl) (idxs hi) hn (by simp at hf;omega)
theorem l05_small (n:Nat) (l:List Lab) (hL:l.length≤9223372036854775807):l05_Small (n+1) l=some 0∨l05_Small (n+1) l=some 1:=by
  rw[l05_Small_eq]
  rcases small05_l n l hL l [] loopFuel 0 _ rfl rfl rfl (by unfold loopFuel;omega) with h | h
  · right;rw[h];rfl
  · left;rw[h];rfl
theorem l15_small (n:Nat) (s:Ser) (hL:s.1.length≤9223372036854775807):l15_Small (n+2) s=some 0∨l15_Small (n+2) s=some 1:=by
  rw[l15_Small_eq]
  rcases l05_small n s.1 hL with h | h
  · left;rw[h];rfl
  · rw[h]
    simp only[obs,tfd,if_neg (show ¬((1:Int)=0) by omega)]
    by_cases h1:(60:Int)<s.2.2.1.2.2.length
    · left;rw[if_pos h1]
    rw[if_neg h1,l14_small]
    simp only[obs]
    split
    · right;rfl
    · left;rfl
theorem ser_wf {s:Ser} (h:Wf tySeries s):SerW s:=by
  obtain ⟨h1,h2,h3,h4,h5⟩:=h
  refine ⟨h2,?_,trs_wf h4,slo_wf h5⟩
  intro e he
  exact ev_wf (h3.2.2.2 e he)
theorem eq_sl_Equal_Label_l (n:Nat) (a b:List Lab) (hL:a.length≤9223372036854775807):∀(ra rb pa pb:List Lab) (f:Nat) (ix len:Int),a=pa++ra→b=pb++rb→pa.length=pb.length→ra.length=rb.length→ix=pa.length→len=a.length→ra.length<f →
    sl_Equal_Label_l4 n f (a,b,len,ix,())=some (if ra=rb then .inl () else .inr false):=by
  intro ra
  induction ra with
  | nil =>
    intro rb pa pb f ix len ha hb hp hr hi hn hf
    obtain ⟨f,rfl⟩:∃g,f=g+1:=⟨f-1,by simp at hf;omega⟩
    have e:rb=[]:=List.length_eq_zero_iff.1 (by simpa using hr.symm)
    subst e
    rw[sl_Equal_Label_l4_eq,decide_eq_false (idxe ha hi hn),tff,if_pos rfl]
  | cons x ra ih =>
    intro rb pa pb f ix len ha hb hp hr hi hn hf
    obtain ⟨f,rfl⟩:∃g,f=g+1:=⟨f-1,by simp at hf;omega⟩
    cases rb with
    | nil=>simp at hr
    | cons y rb =>
      have hlen:=congrArg List.length ha
      simp at hlen
      rw[sl_Equal_Label_l4_eq,decide_eq_true (idx ha hi hn),tft,at_mid ha hi,at_mid hb (by omega)]
      simp only[obs,labEq]
      rw[w64 (x:=ix+1) (by omega) (by omega)]
      by_cases h:x=y
      · subst h
        simp only[decide_true,Bool.not_true,tff]
        rw[ih rb (pa++[x]) (pb++[x]) f (ix+1) len (idxl ha) (idxl hb) (by simp;omega) (by simpa using hr) (idxs hi) hn (by simp at hf;omega)]
        simp
      · rw[if_neg (by simp[h])]
        simp only[decide_eq_false h,Bool.not_false,tft]
theorem eq_sl_Equal_Label (n:Nat) (a b:List Lab) (hL:a.length≤9223372036854775807):sl_Equal_Label (n+1) a b=some (decide (a=b)):=by
  rw[sl_Equal_Label_eq]
  by_cases h:a.length=b.length
  · rw[decide_eq_true (show ((a.length:Nat):Int)=(b.length:Nat) by omega)]
    simp only[Bool.not_true,tff]
    rw[eq_sl_Equal_Label_l n a b hL a b [] [] loopFuel 0 _ rfl rfl rfl h rfl rfl (by unfold loopFuel;omega)]
    by_cases h':a=b
    · rw[if_pos h',decide_eq_true h'];rfl
    · rw[if_neg h',decide_eq_false h'];rfl
  · rw[decide_eq_false (show ¬((a.length:Nat):Int)=(b.length:Nat) by omega),decide_eq_false (fun k:a=b=>h (by rw[k]))]
    rfl
theorem eq_sl_Equal_Event_l (n:Nat) (a b:List Ev) (hL:a.length≤9223372036854775807):∀(ra rb pa pb:List Ev) (f:Nat) (ix len:Int),a=pa++ra→b=pb++rb→pa.length=pb.length→ra.length=rb.length→ix=pa.length→len=a.length→ra.length<f →
    sl_Equal_Event_l4 n f (a,b,len,ix,())=some (if ra=rb then .inl () else .inr false):=by
  intro ra
  induction ra with
  | nil =>
    intro rb pa pb f ix len ha hb hp hr hi hn hf
    obtain ⟨f,rfl⟩:∃g,f=g+1:=⟨f-1,by simp at hf;omega⟩
    have e:rb=[]:=List.length_eq_zero_iff.1 (by simpa using hr.symm)
    subst e
    rw[sl_Equal_Event_l4_eq,decide_eq_false (idxe ha hi hn),tff,if_pos rfl]
  | cons x ra ih =>
    intro rb pa pb f ix len ha hb hp hr hi hn hf
    obtain ⟨f,rfl⟩:∃g,f=g+1:=⟨f-1,by simp at hf;omega⟩
    cases rb with
    | nil=>simp at hr
    | cons y rb =>
      have hlen:=congrArg List.length ha
      simp at hlen
      rw[sl_Equal_Event_l4_eq,decide_eq_true (idx ha hi hn),tft,at_mid ha hi,at_mid hb (by omega)]
      simp only[obs,evEq]
      rw[w64 (x:=ix+1) (by omega) (by omega)]
      by_cases h:x=y
      · subst h
        simp only[decide_true,Bool.not_true,tff]
        rw[ih rb (pa++[x]) (pb++[x]) f (ix+1) len (idxl ha) (idxl hb) (by simp;omega) (by simpa using hr) (idxs hi) hn (by simp at hf;omega)]
        simp
      · rw[if_neg (by simp[h])]
        simp only[decide_eq_false h,Bool.not_false,tft]
theorem eq_sl_Equal_Event (n:Nat) (a b:List Ev) (hL:a.length≤9223372036854775807):sl_Equal_Event (n+1) a b=some (decide (a=b)):=by
  rw[sl_Equal_Event_eq]
  by_cases h:a.length=b.length
  · rw[decide_eq_true (show ((a.length:Nat):Int)=(b.length:Nat) by omega)]
    simp only[Bool.not_true,tff]
    rw[eq_sl_Equal_Event_l n a b hL a b [] [] loopFuel 0 _ rfl rfl rfl h rfl rfl (by unfold loopFuel;omega)]
    by_cases h':a=b
    · rw[if_pos h',decide_eq_true h'];rfl
    · rw[if_neg h',decide_eq_false h'];rfl
  · rw[decide_eq_false (show ¬((a.length:Nat):Int)=(b.length:Nat) by omega),decide_eq_false (fun k:a=b=>h (by rw[k]))]
    rfl
theorem eq_sl_Equal_Slot_l (n:Nat) (a b:List Slo) (hL:a.length≤9223372036854775807):∀(ra rb pa pb:List Slo) (f:Nat) (ix len:Int),a=pa++ra→b=pb++rb→pa.length=pb.length→ra.length=rb.length→ix=pa.length→len=a.length→ra.length<f →
    sl_Equal_Slot_l4 n f (a,b,len,ix,())=some (if ra=rb then .inl () else .inr false):=by
  intro ra
  induction ra with
  | nil =>
    intro rb pa pb f ix len ha hb hp hr hi hn hf
    obtain ⟨f,rfl⟩:∃g,f=g+1:=⟨f-1,by simp at hf;omega⟩
    have e:rb=[]:=List.length_eq_zero_iff.1 (by simpa using hr.symm)
    subst e
    rw[sl_Equal_Slot_l4_eq,decide_eq_false (idxe ha hi hn),tff,if_pos rfl]
  | cons x ra ih =>
    intro rb pa pb f ix len ha hb hp hr hi hn hf
    obtain ⟨f,rfl⟩:∃g,f=g+1:=⟨f-1,by simp at hf;omega⟩
    cases rb with
    | nil=>simp at hr
    | cons y rb =>
      have hlen:=congrArg List.length ha
      simp at hlen
      rw[sl_Equal_Slot_l4_eq,decide_eq_true (idx ha hi hn),tft,at_mid ha hi,at_mid hb (by omega)]
      simp only[obs,sloEq]
      rw[w64 (x:=ix+1) (by omega) (by omega)]
      by_cases h:x=y
      · subst h
        simp only[decide_true,Bool.not_true,tff]
        rw[ih rb (pa++[x]) (pb++[x]) f (ix+1) len (idxl ha) (idxl hb) (by simp;omega) (by simpa using hr) (idxs hi) hn (by simp at hf;omega)]
        simp
      · rw[if_neg (by simp[h])]
        simp only[decide_eq_false h,Bool.not_false,tft]
theorem eq_sl_Equal_Slot (n:Nat) (a b:List Slo) (hL:a.length≤9223372036854775807):sl_Equal_Slot (n+1) a b=some (decide (a=b)):=by
  rw[sl_Equal_Slot_eq]
  by_cases h:a.length=b.length
  · rw[decide_eq_true (show ((a.length:Nat):Int)=(b.length:Nat) by omega)]
    simp only[Bool.not_true,tff]
    rw[eq_sl_Equal_Slot_l n a b hL a b [] [] loopFuel 0 _ rfl rfl rfl h rfl rfl (by unfold loopFuel;omega)]
    by_cases h':a=b
    · rw[if_pos h',decide_eq_true h'];rfl
    · rw[if_neg h',decide_eq_false h'];rfl
  · rw[decide_eq_false (show ¬((a.length:Nat):Int)=(b.length:Nat) by omega),decide_eq_false (fun k:a=b=>h (by rw[k]))]
    rfl
noncomputable instance decSer (a b:Ser):Decidable (a=b):=Classical.propDecidable _
structure SerM (s:Ser):Prop where
  l:s.1.length≤9223372036854775807
  r:s.2.2.1.2.2.length≤9223372036854775807
  a:s.2.2.2.1.1.length≤9223372036854775807
  b:s.2.2.2.1.2.1.length≤9223372036854775807
  d:s.2.2.2.1.2.2.length≤9223372036854775807
theorem series_same (n:Nat) (a b:Ser) (h:SerM a):series_Same (n+3) a b=some (decide (a=b)):=by
  rw[series_Same_eq,label_Same_eq,raw_Same_eq,eq_sl_Equal_Label n _ _ h.l,eq_sl_Equal_Event n _ _ h.r,eq_sl_Equal_Slot (n+1) _ _ h.a,eq_sl_Equal_Slot (n+1) _ _ h.b,eq_sl_Equal_Slot (n+1) _ _ h.d]
  obtain ⟨a1,a2,⟨r1,r2,r3⟩,⟨t1,t2,t3⟩,a5⟩:=a
  obtain ⟨b1,b2,⟨q1,q2,q3⟩,⟨u1,u2,u3⟩,b5⟩:=b
  simp only[obs,sloEq,tfd]
  by_cases h1:a1=b1
  case neg=>simp[h1]
  by_cases h2:a2=b2
  case neg=>simp[h1,h2]
  by_cases h3:r1=q1
  case neg=>simp[h1,h2,h3]
  by_cases h4:r2=q2
  case neg=>simp[h1,h2,h3,h4]
  by_cases h5:r3=q3
  case neg=>simp[h1,h2,h3,h4,h5]
  by_cases h6:t1=u1
  case neg=>simp[h1,h2,h3,h4,h5,h6]
  by_cases h7:t2=u2
  case neg=>simp[h1,h2,h3,h4,h5,h6,h7]
  by_cases h8:t3=u3
  case neg=>simp[h1,h2,h3,h4,h5,h6,h7,h8]
  by_cases h9:a5=b5
  case neg=>simp[h1,h2,h3,h4,h5,h6,h7,h8,h9]
  simp[h1,h2,h3,h4,h5,h6,h7,h8,h9]
def oldV (now w m:Int):Int×Int:=if OfP now w∧1≤m∧m≤4096 then (if 0<now / w+1-m then now / w+1-m else 0,0) else (0,1)
theorem wi_oldest (n:Nat) (now w m:Int):wi_Oldest (n+4) now w m=some (oldV now w m):=by
  rw[wi_Oldest_eq,wi_of n now w,wi_in_int_eq]
  unfold oldV
  by_cases h:OfP now w
  case neg=>rw[if_neg h,if_neg (fun k=>h k.1)];rfl
  rw[if_pos h]
  have hq:=quo_range h
  simp only[obs,decide_true,Bool.not_true,tff]
  by_cases h1:1≤m
  case neg=>simp[h,h1]
  by_cases h2:m≤4096
  case neg=>simp[h,h1,h2]
  rw[w64 (x:=now / w+1) (by omega) (by omega),w64 (x:=now / w+1-m) (by omega) (by omega)]
  simp[h,h1,h2]
noncomputable def goneV (t now w m:Int):Bool:=decide (OfP t w∧(oldV now w m).2=0∧t / w<(oldV now w m).1)
theorem wi_gone (n:Nat) (t now w m:Int):wi_Gone (n+5) t now w m=some (goneV t now w m):=by
  rw[wi_Gone_eq,wi_of (n+1) t w,wi_oldest n now w m]
  unfold goneV
  simp only[obs,tfd]
  by_cases h:OfP t w
  case neg=>rw[if_neg h,if_neg (by simp),decide_eq_false (fun k=>h k.1)]
  rw[if_pos h,if_pos rfl]
  by_cases h1:(oldV now w m).2=0
  · rw[if_pos h1];exact congrArg some (decide_eq_decide.2 ⟨fun k=>⟨h,h1,k⟩,fun k=>k.2.2⟩)
  · rw[if_neg h1,decide_eq_false (fun k=>h1 k.2.1)]
noncomputable def deadV (c:Conf) (last now:Int):Bool :=
  decide (OkC c)&&(goneV last now c.2.1.1 c.2.2.1.1&&(goneV last now c.2.1.2.1 c.2.2.1.2.1&&goneV last now c.2.1.2.2 c.2.2.1.2.2))
theorem series_dead (n:Nat) (c:Conf) (last now:Int):series_Dead (n+6) c last now=some (deadV c last now):=by
  rw[series_Dead_eq,conf_check (n+2) c,wi_gone n,wi_gone n,wi_gone n]
  unfold deadV
  by_cases h:OkC c
  case neg=>rw[if_neg h,decide_eq_false h];rfl
  rw[if_pos h,decide_eq_true h]
  simp only[obs,decide_true,tft,Bool.true_and]
  cases goneV last now c.2.1.1 c.2.2.1.1<;>cases goneV last now c.2.1.2.1 c.2.2.1.2.1<;>cases goneV last now c.2.1.2.2 c.2.2.1.2.2<;>rfl
abbrev Sta:=Conf×(Int×(Int×List Ser))
structure StaW (s:Sta):Prop where
  len:s.2.2.2.length≤9223372036854775807
  ser:∀x∈s.2.2.2,SerW x∧SerM x
def Whole (s:Sta):Prop:=OkC s.1∧(s.2.2.2.length:Int)=s.1.2.2.2.1
noncomputable instance (s):Decidable (Whole s):=Classical.propDecidable _
def LvX (s:Sta) (x:Ser):Prop:=x≠ser0∧(s.2.2.1 = -1∨deadV s.1 x.2.1 s.2.2.1=false)
noncomputable instance (s x):Decidable (LvX s x):=Classical.propDecidable _
def TimeP (t:Int):Prop:=0≤t∧t<35184372088832
instance (t):Decidable (TimeP t):=by unfold TimeP;infer_instance
def Clock (s:Sta):Prop:=TimeP s.2.1∧(s.2.2.1 = -1∨TimeP s.2.2.1)∧s.2.2.1≤s.2.1
instance (s):Decidable (Clock s):=by unfold Clock;infer_instance
def mk (s:Sta):Int:=s.2.1 / s.1.2.1.1*s.1.2.1.1
def Twin (s:Sta) (i:Nat) (x:Ser):Prop:=LvX s x∧∃k,k<i∧∃y,s.2.2.2[k]? = some y∧LvX s y∧y.1=x.1
noncomputable instance (s i x):Decidable (Twin s i x):=Classical.propDecidable _
def RightX (s:Sta) (i:Nat) (x:Ser):Prop:=x=ser0∨(SerOk s.1 x∧0≤x.2.1∧x.2.1<mk s+s.1.2.1.1∧¬Twin s i x)
noncomputable instance (s i x):Decidable (RightX s i x):=Classical.propDecidable _
structure StaOk (s:Sta):Prop where
  whole:Whole s
  clock:Clock s
  right:∀(i:Nat) x,s.2.2.2[i]? = some x→RightX s i x
noncomputable instance (s):Decidable (StaOk s):=Classical.propDecidable _
theorem Whole.len {s:Sta} (h:Whole s):s.2.2.2.length≤65536:=by
  have:=h.1.rng.cap;have:=h.2;omega
theorem at_el {α:Type} {l:List α} {i:Nat} {x:α} (h:l[i]? = some x):at? l (i:Int)=some x:=by
  unfold at?
  rw[decide_eq_true (show (0:Int)≤(i:Int) by omega),Int.toNat_natCast]
  exact h
theorem StaW.at {s:Sta} (h:StaW s) {i:Nat} {x:Ser} (hx:s.2.2.2[i]? = some x):SerW x∧SerM x:=h.ser x (List.mem_of_getElem? hx)
theorem st_empty (n:Nat) {x:Ser} (h:SerM x):stt_empty (n+4) x=some (decide (x=ser0)):=by
  have:=series_same n x ser0 h
  rw[stt_empty_eq]
  have e:series_Same (n+3) x ([],((0:Int),(((0:Int),((0:Int),[])),(([],([],[])),((0:Int),z0)))))=some (decide (x=ser0)):=this
  change obind (series_Same (n+3) x ([],((0:Int),(((0:Int),((0:Int),[])),(([],([],[])),((0:Int),z0)))))) _=_
  rw[e];rfl
theorem st_lives (n:Nat) {s:Sta} {i:Nat} {x:Ser} (hx:s.2.2.2[i]? = some x) (hm:SerM x):stt_view_lives (n+7) s (i:Int)=some (decide (LvX s x)):=by
  rw[stt_view_lives_eq,at_el hx,obs,st_empty (n+2) hm,obs,tfn,tfd,series_dead n]
  by_cases h:x=ser0
  · rw[if_pos h,decide_eq_false (fun k:LvX s x=>k.1 h)]
  rw[if_neg h,tfd]
  by_cases h1:s.2.2.1 = -1
  · rw[if_pos h1,decide_eq_true (show LvX s x from ⟨h,.inl h1⟩)]
  · rw[if_neg h1]
    cases hd:deadV s.1 x.2.1 s.2.2.1
    · rw[decide_eq_true (show LvX s x from ⟨h,.inr hd⟩)];rfl
    · rw[decide_eq_false (fun k:LvX s x=>by rcases k.2 with k | k;exact h1 k;rw[hd] at k;cases k)];rfl
theorem place_l (n:Nat) (is:(Int×Unit)→Option Bool) (p:Nat→Bool) (L:Nat) (hL:L≤1000000) (his:∀k:Nat,k<L→is ((k:Int),())=some (p k)):∀(d k f:Nat),k+d=L→d<f →
    (∃m:Nat,k≤m∧m<L∧p m=true∧(∀j,k≤j→j<m→p j=false)∧stt_view_place_l2 n f (is,(L:Int),(k:Int),())=some (.inr (m:Int))) ∨
    ((∀j,k≤j→j<L→p j=false)∧stt_view_place_l2 n f (is,(L:Int),(k:Int),())=some (.inl ())):=by
  intro d
  induction d with
  | zero =>
    intro k f hk hf
    obtain ⟨f,rfl⟩:∃g,f=g+1:=⟨f-1,by omega⟩
    refine .inr ⟨fun j h1 h2=>by omega,?_⟩
    rw[stt_view_place_l2_eq,decide_eq_false (by omega),tff]
  | succ d ih =>
    intro k f hk hf
    obtain ⟨f,rfl⟩:∃g,f=g+1:=⟨f-1,by omega⟩
    rw[stt_view_place_l2_eq,decide_eq_true (by omega),tft,his k (by omega),obs]
    cases hp:p k
    · rw[tff,w64 (by omega) (by omega),show ((k:Int)+1)=((k+1:Nat):Int) by omega]
      rcases ih (k+1) f (by omega) (by omega) with ⟨m,h1,h2,h3,h4,h5⟩ | ⟨h1,h2⟩
      · exact .inl ⟨m,by omega,h2,h3,fun j q1 q2=>by
          rcases Nat.lt_or_ge k j with q | q
          · exact h4 j (by omega) q2
          · rw[show j=k by omega];exact hp,h5⟩
      · exact .inr ⟨fun j q1 q2=>by
          rcases Nat.lt_or_ge k j with q | q
          · exact h1 j (by omega) q2
          · rw[show j=k by omega];exact hp,h2⟩
    · rw[tft]
      exact .inl ⟨k,Nat.le_refl _,by omega,hp,fun j q1 q2=>by omega,rfl⟩
theorem first_val (n:Nat) (s:Sta) (is:(Int×Unit)→Option Bool) (p:Nat→Bool) (hL:s.2.2.2.length≤1000000) (his:∀k:Nat,k<s.2.2.2.length→is ((k:Int),())=some (p k)) :
    (∃m:Nat,m<s.2.2.2.length∧p m=true∧(∀j,j<m→p j=false)∧stt_view_place (n+1) s is=some (m:Int)) ∨
    ((∀j,j<s.2.2.2.length→p j=false)∧stt_view_place (n+1) s is=some (-1)):=by
  rw[stt_view_place_eq]
  rcases place_l n is p _ hL his s.2.2.2.length 0 loopFuel (by omega) (by unfold loopFuel;omega) with ⟨m,h1,h2,h3,h4,h5⟩ | ⟨h1,h2⟩
  · refine .inl ⟨m,h2,h3,fun j q=>h4 j (by omega) q,?_⟩
    have h5':stt_view_place_l2 n loopFuel (is,(s.2.2.2.length:Int),(0:Int),())=some (.inr (m:Int)):=h5
    rw[h5'];rfl
  · refine .inr ⟨fun j q=>h1 j (by omega) q,?_⟩
    have h2':stt_view_place_l2 n loopFuel (is,(s.2.2.2.length:Int),(0:Int),())=some (.inl ()):=h2
    rw[h2'];rfl
theorem label_same (n:Nat) (a b:List Lab) (h:a.length≤9223372036854775807):label_Same (n+2) a b=some (decide (a=b)):=by
  rw[label_Same_eq,eq_sl_Equal_Label n a b h];rfl
def IsTw (s:Sta) (i k:Nat) (x:Ser):Prop:=k=i∨∃y,s.2.2.2[k]? = some y∧LvX s y∧y.1=x.1
noncomputable instance (s i k x):Decidable (IsTw s i k x):=Classical.propDecidable _
theorem st_twin (n:Nat) {s:Sta} (hw:StaW s) (hL:s.2.2.2.length≤1000000) {i:Nat} {x:Ser} (hx:s.2.2.2[i]? = some x):stt_view_twin (n+9) s (i:Int)=some (decide (Twin s i x)):=by
  have hil:i<s.2.2.2.length:=(List.getElem?_eq_some_iff.1 hx).1
  have hm:=(hw.at hx).2
  rw[stt_view_twin_eq]
  have his:∀k:Nat,k<s.2.2.2.length→(fun y0:Int×Unit=>stt_view_twin_1 (n+8) y0.1 (i:Int) s) ((k:Int),())=some (decide (IsTw s i k x)):=by
    intro k hk
    have hy:s.2.2.2[k]? = some s.2.2.2[k]:=List.getElem?_eq_getElem hk
    generalize s.2.2.2[k]=y at hy
    have hmy:=(hw.at hy).2
    show stt_view_twin_1 (n+8) (k:Int) (i:Int) s=_
    rw[stt_view_twin_1_eq,tfd,st_lives n hy hmy,obs,at_el hy,obs,at_el hx,obs,label_same (n+5) _ _ hmy.l,obs,tfd]
    by_cases h1:k=i
    · rw[if_pos (by rw[h1]),decide_eq_true (show IsTw s i k x from .inl h1)]
    rw[if_neg (by omega)]
    by_cases h2:LvX s y
    · rw[if_pos h2]
      refine congrArg some (decide_eq_decide.2 ⟨fun h3 => .inr ⟨y,hy,h2,h3⟩,fun h3 => ?_⟩)
      rcases h3 with h3 | ⟨z,z1,z2,z3⟩
      · exact absurd h3 h1
      · rw[hy] at z1;cases z1;exact z3
    · rw[if_neg h2,decide_eq_false]
      rintro (h3 | ⟨z,z1,z2,z3⟩)
      · exact h1 h3
      · rw[hy] at z1;cases z1;exact h2 z2
  rcases first_val (n+7) s (fun y0:Int×Unit=>stt_view_twin_1 (n+8) y0.1 (i:Int) s) (fun k=>decide (IsTw s i k x)) hL his with ⟨m,h1,h2,h3,h4⟩ | ⟨h1,h2⟩
  · rw[h4,obs,tfd,st_lives (n+1) hx hm]
    have h2:=of_decide_eq_true h2
    have hmi:m≤i:=by
      rcases Nat.lt_or_ge i m with q | q
      · have:=of_decide_eq_false (h3 i q);exact absurd (.inl rfl) this
      · exact q
    by_cases q:m<i
    · rw[if_pos (by omega),obs]
      refine congrArg some (decide_eq_decide.2 ⟨fun k=>⟨k,m,q,?_⟩,fun k=>k.1⟩)
      exact h2.resolve_left (by omega)
    · rw[if_neg (by omega),decide_eq_false]
      rintro ⟨k1,k,k2,k3⟩
      exact of_decide_eq_false (h3 k (by omega)) (.inr k3)
  · exact absurd (.inl rfl) (of_decide_eq_false (h1 i hil))
theorem mk_range {s:Sta} (h:TimeP s.2.1) (hw:1≤s.1.2.1.1∧s.1.2.1.1≤1099511627776):0≤mk s∧mk s≤s.2.1∧s.2.1<mk s+s.1.2.1.1∧s.2.1-s.2.1 % s.1.2.1.1=mk s:=by
  have e:=Int.mul_ediv_add_emod s.2.1 s.1.2.1.1
  have e1:=Int.emod_nonneg s.2.1 (show s.1.2.1.1≠0 by omega)
  have e2:=Int.emod_lt_of_pos s.2.1 (show 0<s.1.2.1.1 by omega)
  rw[Int.mul_comm] at e
  have e3:0≤mk s:=Int.mul_nonneg (Int.ediv_nonneg h.1 (by omega)) (by omega)
  unfold mk at *
  exact ⟨e3,by omega,by omega,by omega⟩
theorem st_mark (n:Nat) {s:Sta} (h:TimeP s.2.1) (hw:1≤s.1.2.1.1∧s.1.2.1.1≤1099511627776):stt_view_mark (n+1) s=some (mk s):=by
  have:=mk_range h hw
  have:=h.1;have:=h.2
  rw[stt_view_mark_eq,tfd,if_neg (by omega),tmod_nn h.1,w64 (by omega) (by omega),(mk_range h hw).2.2.2]
theorem st_right (n:Nat) {s:Sta} (hw:StaW s) (hh:Whole s) (ht:TimeP s.2.1) {i:Nat} {x:Ser} (hx:s.2.2.2[i]? = some x):stt_view_right (n+12) s (i:Int)=some (decide (RightX s i x)):=by
  have hm:=hw.at hx
  have hr:=hh.1.rng
  have hL:=hh.len
  have hmk:=mk_range ht hr.w0
  have ht1:=ht.1;have ht2:=ht.2;have hw0:=hr.w0
  obtain ⟨m1,m2,m3,m4⟩:=hmk
  rw[stt_view_right_eq,at_el hx,obs,st_empty (n+7) hm.2,obs,tfd,series_check n s.1 hm.1,obs,st_mark (n+10) ht hr.w0,obs,w64 (by omega) (by omega),st_twin (n+2) hw (by omega) hx,obs]
  simp only[tfd]
  by_cases h0:x=ser0
  · rw[if_pos h0,decide_eq_true (show RightX s i x from .inl h0)]
  rw[if_neg h0]
  by_cases h1:SerOk s.1 x
  case neg=>rw[if_neg h1,if_neg (by decide),decide_eq_false (fun q:RightX s i x=>by rcases q with k | k;exact h0 k;exact h1 k.1)]
  rw[if_pos h1,if_pos rfl]
  by_cases h2:0≤x.2.1
  case neg=>rw[if_neg h2,decide_eq_false (fun q:RightX s i x=>by rcases q with k | k;exact h0 k;exact h2 k.2.1)]
  rw[if_pos h2]
  by_cases h3:x.2.1<mk s+s.1.2.1.1
  case neg=>rw[if_neg h3,decide_eq_false (fun q:RightX s i x=>by rcases q with k | k;exact h0 k;exact h3 k.2.2.1)]
  rw[if_pos h3]
  by_cases h4:Twin s i x
  · rw[decide_eq_true h4,decide_eq_false (fun q:RightX s i x=>by rcases q with k | k;exact h0 k;exact k.2.2.2 h4)];rfl
  · rw[decide_eq_false h4,decide_eq_true (show RightX s i x from .inr ⟨h1,h2,h3,h4⟩)];rfl
def sta0:Sta:=(((0:Int),(((0:Int),((0:Int),(0:Int))),(((0:Int),((0:Int),(0:Int))),((0:Int),(0:Int))))),((0:Int),((0:Int),[])))
theorem st_open (n:Nat) (s:Sta):stt_open (n+4) s=some (if Whole s then (s,0) else (sta0,2)):=by
  rw[stt_open_eq,conf_check n s.1,obs,tfn,tfd,tfn,tfd]
  by_cases h:OkC s.1
  case neg=>rw[if_neg h,if_neg (show ¬((2:Int)=0) by decide),if_neg (fun k:Whole s=>h k.1)];rfl
  rw[if_pos h,if_pos rfl]
  by_cases h1:(s.2.2.2.length:Int)=s.1.2.2.2.1
  · rw[if_pos h1,if_pos (show Whole s from ⟨h,h1⟩)]
  · rw[if_neg h1,if_neg (fun k:Whole s=>h1 k.2)];rfl
theorem st_time (n:Nat) (t:Int):stt_time (n+1) t=some (decide (TimeP t)):=by
  rw[stt_time_eq,tfd]
  by_cases h:0≤t
  · rw[if_pos h];exact congrArg some (decide_eq_decide.2 ⟨fun k=>⟨h,k⟩,fun k=>k.2⟩)
  · rw[if_neg h,decide_eq_false (fun k:TimeP t=>h k.1)]
theorem st_clock (n:Nat) (s:Sta):stt_view_clock (n+2) s=some (decide (Clock s)):=by
  rw[stt_view_clock_eq,st_time n,st_time n,obs,obs]
  simp only[tfd]
  by_cases h:TimeP s.2.1
  case neg=>rw[if_neg h,decide_eq_false (fun k:Clock s=>h k.1)]
  rw[if_pos h]
  by_cases h1:s.2.2.1 = -1
  · rw[if_pos h1];exact congrArg some (decide_eq_decide.2 ⟨fun k=>⟨h,.inl h1,k⟩,fun k=>k.2.2⟩)
  rw[if_neg h1]
  by_cases h2:TimeP s.2.2.1
  · rw[if_pos h2];exact congrArg some (decide_eq_decide.2 ⟨fun k=>⟨h,.inr h2,k⟩,fun k=>k.2.2⟩)
  · rw[if_neg h2,decide_eq_false (fun k:Clock s=>by rcases k.2.1 with q | q;exact h1 q;exact h2 q)]
def Wrong (s:Sta) (k:Nat):Prop:=∃x,s.2.2.2[k]? = some x∧¬RightX s k x
noncomputable instance (s k):Decidable (Wrong s k):=Classical.propDecidable _
theorem stt_check (n:Nat) {s:Sta} (hw:StaW s):stt_Check (n+14) s=some (if StaOk s then 0 else 2):=by
  rw[stt_Check_eq,st_open (n+9) s,obs,tfn,tfd]
  by_cases h:Whole s
  case neg=>rw[if_neg h,if_neg (show ¬((sta0,(2:Int)).2=0) by decide),if_neg (fun k:StaOk s=>h k.whole)]
  rw[if_pos h,if_pos rfl,st_clock (n+11) s,obs,tfn,tfd]
  by_cases h1:Clock s
  case neg=>rw[if_neg h1,if_neg (fun k:StaOk s=>h1 k.clock)]
  rw[if_pos h1]
  have hL:=h.len
  have his:∀k:Nat,k<s.2.2.2.length→(fun y2:Int×Unit=>stt_Check_1 (n+13) y2.1 s) ((k:Int),())=some (decide (Wrong s k)):=by
    intro k hk
    have hy:s.2.2.2[k]? = some s.2.2.2[k]:=List.getElem?_eq_getElem hk
    generalize s.2.2.2[k]=y at hy
    show stt_Check_1 (n+13) (k:Int) s=_
    rw[stt_Check_1_eq,st_right n hw h h1.1 hy,obs]
    by_cases q:RightX s k y
    · rw[decide_eq_true q,decide_eq_false (fun z:Wrong s k=>by obtain ⟨x,x1,x2⟩:=z;rw[hy] at x1;cases x1;exact x2 q)];rfl
    · rw[decide_eq_false q,decide_eq_true (show Wrong s k from ⟨y,hy,q⟩)];rfl
  rcases first_val (n+12) s (fun y2:Int×Unit=>stt_Check_1 (n+13) y2.1 s) (fun k=>decide (Wrong s k)) (by omega) his with ⟨m,q1,q2,q3,q4⟩ | ⟨q1,q2⟩
  · rw[show (fun y2:Int×Unit=>stt_Check_1 (n+13) y2.1 (s,(0:Int)).1)=fun y2:Int×Unit=>stt_Check_1 (n+13) y2.1 s from rfl]
    obtain ⟨x,x1,x2⟩:=of_decide_eq_true q2
    rw[q4,obs,tfd,if_pos (by omega),if_neg (fun k:StaOk s=>x2 (k.right m x x1))]
  · rw[show (fun y2:Int×Unit=>stt_Check_1 (n+13) y2.1 (s,(0:Int)).1)=fun y2:Int×Unit=>stt_Check_1 (n+13) y2.1 s from rfl]
    rw[q2,obs,tfd,if_neg (by decide),if_pos]
    refine ⟨h,h1,fun i x hx => ?_⟩
    have:=of_decide_eq_false (q1 i (List.getElem?_eq_some_iff.1 hx).1)
    exact Decidable.byContradiction fun k=>this ⟨x,hx,k⟩
theorem small17_l4 (n:Nat) (l:List Ser) (hL:l.length≤1000000) (hm:∀x∈l,SerM x):∀(rest pre:List Ser) (f:Nat) (ix len:Int),l=pre++rest→ix=pre.length→len=l.length→rest.length<f →
    l17_Small_l4 (n+2) f (l,len,ix,())=some (.inl ())∨l17_Small_l4 (n+2) f (l,len,ix,())=some (.inr 0):=by
  intro rest
  induction rest with
  | nil =>
    intro pre f ix len hl hi hn hf
    obtain ⟨f,rfl⟩:∃g,f=g+1:=⟨f-1,by simp at hf;omega⟩
    left
    rw[l17_Small_l4_eq]
    simp only[tfd,if_neg (idxe hl hi hn)]
  | cons x rest ih =>
    intro pre f ix len hl hi hn hf
    obtain ⟨f,rfl⟩:∃g,f=g+1:=⟨f-1,by simp at hf;omega⟩
    have hx:SerM x:=hm x (by rw[hl];simp)
    rw[l17_Small_l4_eq]
    simp only[tfd,if_pos (idx hl hi hn),at_mid hl hi,obs,idxw hl hi (show l.length≤1000000000000 by omega)]
    rcases l15_small n x hx.l with h | h
    · rw[h];right;rfl
    · rw[h]
      simp only[obs,if_neg (show ¬((1:Int)=0) by decide)]
      exact ih (pre++[x]) f (ix+1) len (idxl hl) (idxs hi) hn (by simp at hf;omega)
theorem l17_small (n:Nat) {s:Sta} (hw:StaW s):l17_Small (n+3) s=some 0∨(l17_Small (n+3) s=some 1∧s.2.2.2.length≤8):=by
  rw[l17_Small_eq]
  simp only[tfd]
  by_cases h:(8:Int)<(s.2.2.2.length:Int)
  · rw[if_pos h];exact .inl rfl
  · rw[if_neg h]
    rcases small17_l4 n s.2.2.2 (by omega) (fun x hx=>(hw.ser x hx).2) s.2.2.2 [] loopFuel 0 _ rfl rfl rfl (by unfold loopFuel;omega) with h1 | h1
    · rw[h1];exact .inr ⟨rfl,by omega⟩
    · rw[h1];exact .inl rfl
theorem ser_m' {s:Ser} (h:Wf tySeries s):SerM s:=by
  obtain ⟨h1,h2,h3,⟨h4,h5,h6⟩,h7⟩:=h
  have e1:=h1.1;have e3:=h3.2.2.1;have e4:=h4.1;have e5:=h5.1;have e6:=h6.1
  simp only[maxLen] at e1 e3 e4 e5 e6
  exact ⟨e1,e3,e4,e5,e6⟩
theorem sta_wf {s:Sta} (h:Wf tyState s):StaW s:=by
  obtain ⟨h1,h2,h3,h4⟩:=h
  have e:=h4.1
  simp only[maxLen] at e
  exact ⟨e,fun x hx=>⟨ser_wf (h4.2 x hx),ser_m' (h4.2 x hx)⟩⟩
end Go.Proofs.YtjeabebacegikaaGreatDoor
namespace Go.Proofs.YtjeabebacegikaaGreatDoor
open Go.Flat Go.Plim
set_option linter.unusedVariables false
def OpenInv (c:Conf) (s:Trs) (o:Slo) (l:List Ev):Prop :=
  (l=[]∧o=s0∧∀t,FInv c s [] t)∨∃t,EndsAt l t∧FInv c s l t∧o=(t / c.2.1.1,cellOf (win c.2.1.1 l (t / c.2.1.1)))
theorem OpenInv.fold {c:Conf} {s:Trs} {o:Slo} {l:List Ev} (h:OpenInv c s o l):FoldOk c s:=by
  rcases h with ⟨_,_,h⟩ | ⟨t,_,h,_⟩
  · exact (h 0).ok
  · exact h.ok
end Go.Proofs.YtjeabebacegikaaGreatDoor
namespace Go.Proofs.YtjeabebacegikaaGreatDoor
open Go.Flat Go.Plim
set_option linter.unusedVariables false
set_option linter.unusedSimpArgs false
def rawOf (room:Int) (l:List Ev):Rw :=
  (if (l.length:Int)≤room then 0 else (l.length:Int)-room,(if (l.length:Int)≤room then 0 else ((l[l.length-room.toNat-1]?).getD e0).1,l.drop (l.length-room.toNat)))
structure SerInv (c:Conf) (s:Ser) (l:List Ev):Prop where
  lab:LabOk s.1
  len:l.length≤1000000
  raw:s.2.2.1=rawOf c.1 l
  opn:OpenInv c s.2.2.2.1 s.2.2.2.2 l
  last:(l=[]∧s.2.1 = -1)∨EndsAt l s.2.1
theorem SerInv.foll {c:Conf} {s:Ser} {l:List Ev} (h:SerInv c s l):Foll l:=by
  rcases h.last with ⟨rfl,_⟩ | h
  · exact Foll.nil
  · exact h.foll
theorem ends_getLast {l:List Ev} {t:Int} (h:EndsAt l t):∃e,l.getLast? = some e∧e.1=t:=by
  obtain ⟨x,hx,hxt⟩:=h.last
  rcases List.eq_nil_or_concat l with rfl | ⟨p,y,rfl⟩
  · cases hx
  rw[List.concat_eq_append] at *
  have h1:=h.le y (by simp)
  refine ⟨y,by simp,?_⟩
  rcases List.mem_append.1 hx with q | q
  · have:=(foll_append.1 h.foll).2.2 x q y (by simp);omega
  · simp at q;rw[←q];exact hxt
theorem ends_uniq {l:List Ev} {t u:Int} (h:EndsAt l t) (k:EndsAt l u):t=u:=by
  obtain ⟨e,h1,h2⟩:=ends_getLast h
  obtain ⟨e',k1,k2⟩:=ends_getLast k
  rw[h1] at k1;simp at k1;rw[←h2,←k2,k1]
theorem SerInv.at_ {c:Conf} {s:Ser} {l:List Ev} (h:SerInv c s l) (hl:l≠[]):EndsAt l s.2.1∧FInv c s.2.2.2.1 l s.2.1∧s.2.2.2.2=(s.2.1 / c.2.1.1,cellOf (win c.2.1.1 l (s.2.1 / c.2.1.1))):=by
  have he:=h.last.resolve_left fun k=>hl k.1
  rcases h.opn with k | ⟨t,k1,k2,k3⟩
  · exact absurd k.1 hl
  · have:=ends_uniq he k1
    subst this
    exact ⟨he,k2,k3⟩
theorem factor_pos {a b:Int} (ha:1≤a) (hb:1≤b) (hm:b % a=0):0<b / a:=by
  rcases Int.lt_or_le 0 (b / a) with z | z
  · exact z
  · exfalso
    have e:a*(b / a)=b:=by have:=Int.mul_ediv_add_emod b a;omega
    have:a*(b / a)≤a*0:=Int.mul_le_mul_of_nonneg_left z (by omega)
    omega
noncomputable def findV (s:Sta) (l:List Lab):Option Nat:=s.2.2.2.findIdx? fun x=>decide (x.1=l∧LvX s x)
noncomputable def roomV (s:Sta):Option Nat:=s.2.2.2.findIdx? fun x=>decide (¬LvX s x)
theorem findV_some {s:Sta} {l:List Lab} {i:Nat}:findV s l=some i↔∃x,s.2.2.2[i]? = some x∧x.1=l∧LvX s x∧∀j,j<i→∀y,s.2.2.2[j]? = some y→¬(y.1=l∧LvX s y):=by
  unfold findV
  rw[List.findIdx?_eq_some_iff_getElem]
  constructor
  · rintro ⟨h,h1,h2⟩
    have h1:=of_decide_eq_true h1
    refine ⟨_,List.getElem?_eq_getElem h,h1.1,h1.2,fun j hj y hy => ?_⟩
    obtain ⟨hjl,e⟩:=List.getElem?_eq_some_iff.1 hy
    have:=h2 j hj
    rw[e] at this
    simpa using this
  · rintro ⟨x,hx,h1,h2,h3⟩
    obtain ⟨hl,e⟩:=List.getElem?_eq_some_iff.1 hx
    refine ⟨hl,by rw[e];exact decide_eq_true ⟨h1,h2⟩,fun j hj => ?_⟩
    have:=h3 j hj _ (List.getElem?_eq_getElem (by omega))
    simpa using this
theorem findV_none {s:Sta} {l:List Lab}:findV s l=none↔∀x∈s.2.2.2,¬(x.1=l∧LvX s x):=by
  unfold findV
  rw[List.findIdx?_eq_none_iff]
  simp
end Go.Proofs.YtjeabebacegikaaGreatDoor
namespace Go.Proofs.YtjeabebacegikaaGreatDoor
open Go.Flat
def rd (st:List UInt8×Bool) (k:Nat):Int×(List UInt8×Bool):=if st.2=true∨st.1.length<k then (0,([],true)) else (valI (bytesI (st.1.take k)),(st.1.drop k,false))
def q0 (s:List UInt8):=rd (s,false) 4
def q1 (s:List UInt8):=rd (q0 s).2 8
def q2 (s:List UInt8):=rd (q1 s).2 8
def q3 (s:List UInt8):=rd (q2 s).2 8
def q4 (s:List UInt8):=rd (q3 s).2 4
def q5 (s:List UInt8):=rd (q4 s).2 4
def q6 (s:List UInt8):=rd (q5 s).2 4
def q7 (s:List UInt8):=rd (q6 s).2 4
def q8 (s:List UInt8):=rd (q7 s).2 4
def q9 (s:List UInt8):=rd (q8 s).2 8
structure Full (s:List UInt8):Prop where
  z:(q9 s).1=0
  good:(q9 s).2.2=false
  left:(q9 s).2.1=[]
def idxC (c:Conf):Int:=prt c.2.2.2.2 120
def hom (c:Conf):Int:=1+idxC c+c.2.2.2.2
end Go.Proofs.YtjeabebacegikaaGreatDoor
namespace Go.Proofs.YtjeabebacegikaaGreatDoor
open Go.Flat Go.Plim
set_option linter.unusedVariables false
set_option linter.unusedSimpArgs false
theorem el_get {l:List Ser} {k:Nat} (h:k<l.length):∃y,l[k]? = some y:=⟨l[k],List.getElem?_eq_getElem h⟩
noncomputable def findR (s:Sta) (l:List Lab):Int×Int:=if Whole s then (match findV s l with | some i=>((i:Int),0) | none=>(0,3)) else (0,2)
def IsF (s:Sta) (l:List Lab) (k:Nat):Prop:=∃y,s.2.2.2[k]? = some y∧y.1=l∧LvX s y
noncomputable instance (s l k):Decidable (IsF s l k):=Classical.propDecidable _
theorem find_first {s:Sta} {l:List Lab} {m:Nat} (h:IsF s l m) (hn:∀j,j<m→¬IsF s l j):findV s l=some m:=by
  obtain ⟨y,h1,h2,h3⟩:=h
  exact findV_some.2 ⟨y,h1,h2,h3,fun j hj z hz k=>hn j hj ⟨z,hz,k.1,k.2⟩⟩
theorem find_no {s:Sta} {l:List Lab} (hn:∀j,j<s.2.2.2.length→¬IsF s l j):findV s l=none:=by
  refine findV_none.2 fun x hx k => ?_
  obtain ⟨i,hi,e⟩:=List.getElem_of_mem hx
  exact hn i hi ⟨x,by rw[List.getElem?_eq_getElem hi,e],k.1,k.2⟩
theorem stt_find (n:Nat) {s:Sta} (hw:StaW s) (l:List Lab):stt_Find (n+10) s l=some (findR s l):=by
  rw[stt_Find_eq,st_open (n+5) s,obs,tfn,tfd]
  unfold findR
  by_cases h:Whole s
  case neg=>rw[if_neg h,if_neg h,if_neg (show ¬((sta0,(2:Int)).2=0) by decide)]
  rw[if_pos h,if_pos h,if_pos rfl]
  have his:∀k:Nat,k<s.2.2.2.length→(fun y1:Int×Unit=>stt_Find_1 (n+9) y1.1 s l s) ((k:Int),())=some (decide (IsF s l k)):=by
    intro k hk
    obtain ⟨y,hy⟩:=el_get hk
    have hm:=(hw.at hy).2
    show stt_Find_1 (n+9) (k:Int) s l s=_
    rw[stt_Find_1_eq,at_el hy,obs,label_same (n+6) _ _ hm.l,obs,tfd,st_lives (n+1) hy hm,obs]
    by_cases h1:y.1=l
    · rw[if_pos h1]
      refine congrArg some (decide_eq_decide.2 ⟨fun k=>⟨y,hy,h1,k⟩,fun ⟨z,z1,z2,z3⟩ => ?_⟩)
      rw[hy] at z1;cases z1;exact z3
    · rw[if_neg h1,decide_eq_false (fun q:IsF s l k=>by obtain ⟨z,z1,z2,z3⟩:=q;rw[hy] at z1;cases z1;exact h1 z2)]
  rcases first_val (n+8) s (fun y1:Int×Unit=>stt_Find_1 (n+9) y1.1 s l s) (fun k=>decide (IsF s l k)) (by have:=h.len;omega) his with ⟨m,q1,q2,q3,q4⟩ | ⟨q1,q2⟩
  · rw[show (fun y1:Int×Unit=>stt_Find_1 (n+9) y1.1 s l (s,(0:Int)).1)=fun y1:Int×Unit=>stt_Find_1 (n+9) y1.1 s l s from rfl,q4,obs,tfd,if_neg (by omega),find_first (of_decide_eq_true q2) (fun j hj=>of_decide_eq_false (q3 j hj))]
  · rw[show (fun y1:Int×Unit=>stt_Find_1 (n+9) y1.1 s l (s,(0:Int)).1)=fun y1:Int×Unit=>stt_Find_1 (n+9) y1.1 s l s from rfl,q2,obs,tfd,if_pos (by decide),find_no (fun j hj=>of_decide_eq_false (q1 j hj))]
structure Goes (s:Sta) (l:List Lab) (e:Ev):Prop where
  st:StaOk s
  lab:LabOk l
  ev:EvOk e
  lo:mk s≤e.1
  hi:e.1<mk s+s.1.2.1.1
inductive PlaceAt (s:Sta) (l:List Lab) (e:Ev):Nat→Ser→Bool→Prop
  | found {i:Nat} {x:Ser} (hf:findV s l=some i) (hx:s.2.2.2[i]? = some x) (hl:x.1=l) (hlv:LvX s x) (ht:x.2.1<e.1):PlaceAt s l e i x false
  | room {i:Nat} (hf:findV s l=none) (hs:e.2.2.2=false) (hr:roomV s=some i):PlaceAt s l e i (l,(-1,(r0w,(emp s.1,s0)))) true
theorem findR_some {s:Sta} (h:Whole s) {l:List Lab} {i:Nat} (hf:findV s l=some i):findR s l=((i:Int),0):=by
  unfold findR;rw[if_pos h,hf]
theorem findR_none {s:Sta} (h:Whole s) {l:List Lab} (hf:findV s l=none):findR s l=(0,3):=by
  unfold findR;rw[if_pos h,hf]
def tierW (c:Conf) (k:Int):Int:=if k=0 then c.2.1.1 else if k=1 then c.2.1.2.1 else c.2.1.2.2
def tierN (c:Conf) (k:Int):Int:=if k=0 then c.2.2.1.1 else if k=1 then c.2.2.1.2.1 else c.2.2.1.2.2
noncomputable def keptV (s:Sta) (k:Int):Int×(Int×Int) :=
  if StaOk s then (if k<0∨2<k then (0,(0,1)) else ((oldV s.2.1 (tierW s.1 k) (tierN s.1 k)).1,(s.2.1 / tierW s.1 k,0))) else (0,(0,2))
theorem old_none {now w m:Int} (h:OfP now w) (hm:1≤m∧m≤4096):(oldV now w m).2=0:=by
  unfold oldV;rw[if_pos ⟨h,hm.1,hm.2⟩]
theorem csc_kept (n:Nat) {s:Sta} (hw:StaW s) (k:Int):csc_Kept (n+16) s k=some (keptV s k):=by
  rw[csc_Kept_eq,csc_tiers_eq,stt_check n hw]
  unfold keptV
  by_cases h:StaOk s
  case neg=>rw[if_neg h,if_neg h];rfl
  rw[if_pos h,if_pos h]
  have hr:=h.whole.1.rng
  have ht:=h.clock.1
  simp only[obs,decide_true,Bool.not_true,tff,tfd,tfn,wi_oldest (n+11)]
  by_cases h1:k<0
  · rw[if_pos h1,if_pos (Or.inl h1)];rfl
  rw[if_neg h1]
  by_cases h2:3≤k
  · rw[if_pos h2,if_pos (show k<0∨2<k by omega)];rfl
  rw[if_neg h2,if_neg (show ¬(k<0∨2<k) by omega)]
  simp only[obs,if_true]
  have q0:=quo_at ht hr.w0.1;have q1:=quo_at ht hr.w1.1;have q2:=quo_at ht hr.w2.1
  rcases (by omega:k=0∨k=1∨k=2) with e | e | e
  · subst e
    simp only[if_true,if_neg (nz hr.w0.1),q0,old_none ⟨ht.1,ht.2,hr.w0.1,hr.w0.2⟩ hr.n0];rfl
  · subst e
    simp only[if_true,if_neg (show ¬((1:Int)=0) by decide),if_neg (nz hr.w1.1),q1,old_none ⟨ht.1,ht.2,hr.w1.1,hr.w1.2⟩ hr.n1];rfl
  · subst e
    simp only[if_true,if_neg (show ¬((2:Int)=0) by decide),if_neg (show ¬((2:Int)=1) by decide),if_neg (nz hr.w2.1),q2,old_none ⟨ht.1,ht.2,hr.w2.1,hr.w2.2⟩ hr.n2];rfl
theorem mrgE_fine {a b:Cel} (ha:CellOk a) (hb:CellOk b) (h:Ahead a b):mrgE a b=(mrg a b,0):=by
  unfold mrgE;rw[if_pos ⟨ha,hb⟩,if_pos h]
theorem allE_last {w:Int}:∀(L:List Slo) (c:Cel) (lo hi:Int),Up L→(∀s∈L,FitsP s.2 w s.1∧lo≤s.1∧s.1<hi)→CellOk c→(c=z0∨c.2.2.1.1 / w<lo)→lo≤hi→(allE c (L.map (·.2))).1=z0∨(allE c (L.map (·.2))).1.2.2.1.1 / w<hi:=by
  intro L
  induction L with
  | nil=>intro c lo hi _ _ _ h hle;rcases h with h | h;exact .inl h;exact .inr (by simp only[List.map_nil,allE];omega)
  | cons s L ih =>
    intro c lo hi hu hs hc hl hle
    unfold Up at hu
    rw[List.pairwise_cons] at hu
    obtain ⟨hf,h1,h2⟩:=hs s (by simp)
    have ha:Ahead c s.2:=by
      rcases hl with h | h
      · exact .inl h
      · refine .inr (.inr ?_)
        have e:=hf.f
        rcases Int.lt_or_le c.2.2.1.1 s.2.2.1.1 with q | q
        · exact q
        · have:=Int.ediv_le_ediv (c:=w) (by have:=hf.w0;omega) q
          omega
    simp only[List.map_cons,allE]
    rw[mrgE_fine hc hf.n.ok ha,if_pos rfl]
    refine ih _ (s.1+1) hi hu.2 (fun x hx=>⟨(hs x (by simp[hx])).1,by have:=hu.1 x hx;omega,(hs x (by simp[hx])).2.2⟩) (mrg_ok hc hf.n.ok ha) (.inr ?_) (by omega)
    have el:(mrg c s.2).2.2.1.1=s.2.2.2.1.1:=by
      unfold mrg
      by_cases k:c=z0
      · rw[if_pos k]
      · rw[if_neg k,if_neg hf.n.ne]
    rw[el,hf.l];omega
theorem tfold_last {t:List Slo} {w i j a:Int} (h:TierOk t w) (hb:NoBehind t a) (h0:0≤i) (ha:i≤a):CellOk (tfold t i j).1∧((tfold t i j).1=z0∨(tfold t i j).1.2.2.1.1 / w<a):=by
  refine ⟨tfold_okc _ _ _,?_⟩
  unfold tfold
  split
  · exact .inl rfl
  · unfold within
    have hn:=(noBehind_iff h a).1 hb
    refine allE_last (w:=w) _ z0 i a ((tall_up h).filter _) (fun s hs => ?_) ok_z0 (.inl rfl) ha
    obtain ⟨s1,s2⟩:=List.mem_filter.1 hs
    have s2:=of_decide_eq_true s2
    exact ⟨(tall_fits h s1).1,s2.1,hn s s1⟩
theorem ahead_of {a b:Cel} {w k:Int} (hw:1≤w) (ha:a=z0∨a.2.2.1.1 / w<k) (hb:b=z0∨b.2.1.1 / w=k):Ahead a b:=by
  rcases ha with ha | ha
  · exact .inl ha
  rcases hb with hb | hb
  · exact .inr (.inl hb)
  refine .inr (.inr ?_)
  rcases Int.lt_or_le a.2.2.1.1 b.2.1.1 with q | q
  · exact q
  · have:=Int.ediv_le_ediv (c:=w) (by omega) q
    omega
theorem allE_first {w:Int}:∀(L:List Slo) (c:Cel) (lo:Int),Up L→(∀s∈L,FitsP s.2 w s.1∧lo≤s.1)→CellOk c→(c=z0∨c.2.2.1.1 / w<lo)→∀b:Int,(c=z0∨b≤c.2.1.1 / w)→b≤lo→(allE c (L.map (·.2))).1=z0∨b≤(allE c (L.map (·.2))).1.2.1.1 / w:=by
  intro L
  induction L with
  | nil=>intro c lo _ _ _ _ b hb _;exact hb
  | cons s L ih =>
    intro c lo hu hs hc hl b hb hbl
    unfold Up at hu
    rw[List.pairwise_cons] at hu
    obtain ⟨hf,h1⟩:=hs s (by simp)
    have ha:Ahead c s.2:=by
      rcases hl with h | h
      · exact .inl h
      · refine .inr (.inr ?_)
        have e:=hf.f
        rcases Int.lt_or_le c.2.2.1.1 s.2.2.1.1 with q | q
        · exact q
        · have:=Int.ediv_le_ediv (c:=w) (by have:=hf.w0;omega) q
          omega
    simp only[List.map_cons,allE]
    rw[mrgE_fine hc hf.n.ok ha,if_pos rfl]
    refine ih _ (s.1+1) hu.2 (fun x hx=>⟨(hs x (by simp[hx])).1,by have:=hu.1 x hx;omega⟩) (mrg_ok hc hf.n.ok ha) (.inr ?_) b ?_ (by omega)
    · have el:(mrg c s.2).2.2.1.1=s.2.2.2.1.1:=by
        unfold mrg
        by_cases k:c=z0
        · rw[if_pos k]
        · rw[if_neg k,if_neg hf.n.ne]
      rw[el,hf.l];omega
    · unfold mrg
      by_cases k:c=z0
      · rw[if_pos k,hf.f];exact .inr (by omega)
      · rw[if_neg k,if_neg hf.n.ne]
        rcases hb with hb | hb
        · exact absurd hb k
        · exact .inr hb
theorem tfold_first {t:List Slo} {w i j:Int} (h:TierOk t w) (h0:0≤i):(tfold t i j).1=z0∨i≤(tfold t i j).1.2.1.1 / w:=by
  unfold tfold
  split
  · exact .inl rfl
  · unfold within
    refine allE_first (w:=w) _ z0 i ((tall_up h).filter _) (fun s hs => ?_) ok_z0 (.inl rfl) i (.inl rfl) (Int.le_refl _)
    obtain ⟨s1,s2⟩:=List.mem_filter.1 hs
    have s2:=of_decide_eq_true s2
    exact ⟨(tall_fits h s1).1,s2.1⟩
theorem now_up {t:List Slo} {a b T:Int} {cur:Cel} (h:TierOk t a) (hb:NoBehind t (T / a)) (ha:1≤a) (hb1:1≤b) (hm:b % a=0) (hT:0≤T) (hc:CellN cur) (hf:cur.2.1.1 / a=T / a) :
    ∃m,mrgE (tfold t (T / b*(b / a)) (T / a)).1 cur=(m,0)∧CellN m∧m.2.1.1 / b=T / b:=by
  have hp:=factor_pos ha hb1 hm
  have q:=(edvm (t:=T) ha hb1 hm).2
  have hT':0≤T / b:=Int.ediv_nonneg hT (by omega)
  have u0:T / b*(b / a)≤T / a:=by rw[←q];exact Int.ediv_mul_le _ (by omega)
  have p0:0≤T / b*(b / a):=Int.mul_nonneg hT' (by omega)
  obtain ⟨k1,k2⟩:=tfold_last (j:=T / a) h hb p0 u0
  have k3:=tfold_first (j:=T / a) h p0
  have hah:=ahead_of ha k2 (.inr hf)
  refine ⟨_,mrgE_fine k1 hc.ok hah,?_,?_⟩
  · rcases k1 with z | z
    · rw[z,z0_mrg];exact hc
    · rcases hah with y | y | y
      · rw[y,z0_mrg];exact hc
      · exact absurd y hc.ne
      · exact mrg_N z hc y
  · unfold mrg
    by_cases z:(tfold t (T / b*(b / a)) (T / a)).1=z0
    · rw[if_pos z,←(edvm (t:=cur.2.1.1) ha hb1 hm).2,hf,q]
    · rw[if_neg z,if_neg hc.ne]
      have z1:=k2.resolve_left z
      have z2:=k3.resolve_left z
      have z3:=(k1.n z).ft
      have z4:(tfold t (T / b*(b / a)) (T / a)).1.2.1.1 / a≤(tfold t (T / b*(b / a)) (T / a)).1.2.2.1.1 / a:=Int.ediv_le_ediv (by omega) z3
      rw[←(edvm (t:=(tfold t (T / b*(b / a)) (T / a)).1.2.1.1) ha hb1 hm).2]
      have z5:(tfold t (T / b*(b / a)) (T / a)).1.2.1.1 / a / (b / a)≤T / a / (b / a):=Int.ediv_le_ediv (by omega) (by omega)
      have z6:T / b≤(tfold t (T / b*(b / a)) (T / a)).1.2.1.1 / a / (b / a):=by rw[Int.le_ediv_iff_mul_le hp];exact z2
      omega
theorem range_fine {t:List Slo} {w T i j:Int} {cur:Cel} {ok:Prop} [Decidable ok] (hok:ok) (h:TierOk t w) (hb:T = -1∨NoBehind t (T / w)∧CellN cur∧cur.2.1.1 / w=T / w) (h0:0≤i) (hij:i≤j):(rangeV ok i j T w t (cur,0)).2=0:=by
  unfold rangeV
  rw[if_pos hok,if_neg (by omega),if_neg (by omega)]
  by_cases h1:T = -1
  · rw[if_pos h1]
  rw[if_neg h1]
  obtain ⟨hb,hc,hf⟩:=hb.resolve_left h1
  by_cases h2:T / w<i
  · rw[if_pos h2];exact tfold_none h h0 hij
  rw[if_neg h2]
  by_cases h3:j≤T / w
  · rw[if_pos h3];exact tfold_none h h0 hij
  rw[if_neg h3,if_neg (nn rfl)]
  obtain ⟨k1,k2⟩:=tfold_last (j:=j) h hb h0 (by omega:i≤T / w)
  rw[mrgE_fine k1 hc.ok (ahead_of h.w0 k2 (.inr hf))]
structure Ends3 (c:Conf) (s:Ser):Prop where
  t0:s.2.1 = -1∨NoBehind s.2.2.2.1.1 (s.2.1 / c.2.1.1)∧CellN s.2.2.2.2.2∧s.2.2.2.2.2.2.1.1 / c.2.1.1=s.2.1 / c.2.1.1
  t1:s.2.1 = -1∨∃m,now1 c s=(m,0)∧NoBehind s.2.2.2.1.2.1 (s.2.1 / c.2.1.2.1)∧CellN m∧m.2.1.1 / c.2.1.2.1=s.2.1 / c.2.1.2.1
  t2:s.2.1 = -1∨∃m,now2 c s=(m,0)∧NoBehind s.2.2.2.1.2.2 (s.2.1 / c.2.1.2.2)∧CellN m∧m.2.1.1 / c.2.1.2.2=s.2.1 / c.2.1.2.2
theorem serOk_ends3 {c:Conf} {s:Ser} (h:SerOk c s):Ends3 c s:=by
  have hr:=h.fold.cok.rng
  by_cases hn:s.2.1 = -1
  · exact ⟨.inl hn,.inl hn,.inl hn⟩
  have ht:=serOk_at h hn
  obtain ⟨he,_⟩:=serOk_ends h hn
  have hf:s.2.2.2.2.2.2.1.1 / c.2.1.1=s.2.1 / c.2.1.1:=by
    rw[he.fit.f,←he.fit.l,he.ol]
  obtain ⟨m1,a1,a2,a3⟩:=now_up h.fold.t0 he.b0 hr.w0.1 hr.w1.1 h.fold.cok.m1 ht.1 he.fit.n hf
  obtain ⟨m2,b1,b2,b3⟩:=now_up h.fold.t1 he.b1 hr.w1.1 hr.w2.1 h.fold.cok.m2 ht.1 a2 a3
  have e1:now1 c s=(m1,0):=a1
  refine ⟨.inr ⟨he.b0,he.fit.n,hf⟩,.inr ⟨m1,e1,he.b1,a2,a3⟩,.inr ⟨m2,?_,he.b2,b2,b3⟩⟩
  unfold now2
  rw[e1,if_neg (nn rfl)]
  exact b1
noncomputable def rangeK (c:Conf) (s:Ser) (k i j:Int):Cel×Int :=
  if k=0 then rangeV (SerOk c s) i j s.2.1 c.2.1.1 s.2.2.2.1.1 (s.2.2.2.2.2,0)
  else if k=1 then rangeV (SerOk c s) i j s.2.1 c.2.1.2.1 s.2.2.2.1.2.1 (now1 c s)
  else rangeV (SerOk c s) i j s.2.1 c.2.1.2.2 s.2.2.2.1.2.2 (now2 c s)
theorem rangeK_fine {c:Conf} {s:Ser} (h:SerOk c s) (k:Int) {i j:Int} (h0:0≤i) (hij:i≤j):(rangeK c s k i j).2=0:=by
  have he:=serOk_ends3 h
  unfold rangeK
  split
  · exact range_fine h h.fold.t0 he.t0 h0 hij
  split
  · by_cases hn:s.2.1 = -1
    · unfold rangeV;rw[if_pos h,if_neg (by omega),if_neg (by omega),if_pos hn]
    · obtain ⟨m,e,k1,k2,k3⟩:=he.t1.resolve_left hn
      rw[e];exact range_fine h h.fold.t1 (.inr ⟨k1,k2,k3⟩) h0 hij
  · by_cases hn:s.2.1 = -1
    · unfold rangeV;rw[if_pos h,if_neg (by omega),if_neg (by omega),if_pos hn]
    · obtain ⟨m,e,k1,k2,k3⟩:=he.t2.resolve_left hn
      rw[e];exact range_fine h h.fold.t2 (.inr ⟨k1,k2,k3⟩) h0 hij
theorem live_ok {s:Sta} (h:StaOk s) {x:Ser} (hx:x∈s.2.2.2) (hl:LvX s x):SerOk s.1 x∧0≤x.2.1:=by
  obtain ⟨i,hi,e⟩:=List.getElem_of_mem hx
  rcases h.right i x (by rw[List.getElem?_eq_getElem hi,e]) with k | k
  · exact absurd k hl.1
  · exact ⟨k.1,k.2.1⟩
theorem tier_rng {c:Conf} (h:OkC c) (k:Int):1≤tierW c k∧tierW c k≤1099511627776∧1≤tierN c k∧tierN c k≤4096:=by
  have hr:=h.rng
  have a0:=hr.w0;have a1:=hr.w1;have a2:=hr.w2;have b0:=hr.n0;have b1:=hr.n1;have b2:=hr.n2
  unfold tierW tierN
  split
  · exact ⟨a0.1,a0.2,b0.1,b0.2⟩
  split
  · exact ⟨a1.1,a1.2,b1.1,b1.2⟩
  · exact ⟨a2.1,a2.2,b2.1,b2.2⟩
end Go.Proofs.YtjeabebacegikaaGreatDoor

namespace Go.Plim
set_option linter.unusedVariables false
def tz:Nat→Nat→Nat
  | 0,_=>0
  | k+1,x=>if x % 2=1 then 0 else tz k (x / 2)+1
theorem tz_odd (k x:Nat) (h:x % 2=1):tz k x=0:=by cases k<;>simp[tz,h]
theorem tz_spec:∀(k x:Nat),0<x→x<2^k→tz k x<k∧x=2^tz k x*(x / 2^tz k x)∧(x / 2^tz k x) % 2=1:=by
  intro k
  induction k with
  | zero=>intro x h0 h1;simp at h1;omega
  | succ k ih =>
    intro x h0 h1
    by_cases h:x % 2=1
    · rw[tz_odd (k+1) x h]
      simp[h]
    · have e:tz (k+1) x=tz k (x / 2)+1:=by simp[tz,h]
      rw[Nat.pow_succ] at h1
      obtain ⟨a1,a2,a3⟩:=ih (x / 2) (by omega) (by omega)
      rw[e,Nat.pow_succ,Nat.mul_comm (2^tz k (x / 2)) 2,←Nat.div_div_eq_div_mul]
      refine ⟨by omega,?_,a3⟩
      rw[Nat.mul_assoc,←a2]
      omega
theorem tz_unique {k x t:Nat} (h0:0<x) (h1:x<2^k) (h:x % 2^t=0) (ho:(x / 2^t) % 2=1):tz k x=t:=by
  obtain ⟨a1,a2,a3⟩:=tz_spec k x h0 h1
  have b2:x=2^t*(x / 2^t):=by have:=Nat.div_add_mod x (2^t);omega
  generalize tz k x=s at *
  generalize hy:x / 2^s=y at *
  generalize hz:x / 2^t=z at *
  have e:2^s*y=2^t*z:=by omega
  have one:∀(s t y z:Nat),2^s*y=2^t*z→y % 2=1→z % 2=1→s<t→False:=by
    intro s t y z e hy hz hlt
    obtain ⟨d,rfl⟩:∃d,t=s+(d+1):=⟨t-s-1,by omega⟩
    rw[Nat.pow_add,Nat.mul_assoc] at e
    have:=Nat.eq_of_mul_eq_mul_left (Nat.two_pow_pos s) e
    rw[this,Nat.pow_succ,Nat.mul_comm (2^d) 2,Nat.mul_assoc,Nat.mul_mod_right] at hy
    cases hy
  rcases Nat.lt_trichotomy s t with q | q | q
  · exact (one s t y z e a3 ho q).elim
  · exact q
  · exact (one t s z y e.symm ho a3 q).elim
theorem gcd_two {a b:Nat} (ha:a % 2=1) (t:Nat):Nat.gcd a (2^t*b)=Nat.gcd a b:=by
  have hc:Nat.Coprime 2 a:=by
    unfold Nat.Coprime
    rw[Nat.gcd_rec,ha]
    simp
  exact Nat.Coprime.gcd_mul_left_cancel_right b (Nat.Coprime.pow_left t hc)
theorem gcd_less {a b:Nat} (h:a≤b):Nat.gcd a (b-a)=Nat.gcd a b:=by
  have:=Nat.gcd_add_self_right (m:=a) (n:=b-a)
  rw[Nat.sub_add_cancel h] at this
  exact this.symm
theorem gcd_parts {x y s t a b:Nat} (hx:x=2^s*a) (hy:y=2^t*b) (ha:a % 2=1) (hb:b % 2=1):Nat.gcd x y=2^(min s t)*Nat.gcd a b:=by
  subst hx hy
  rcases Nat.le_total s t with h | h
  · rw[Nat.min_eq_left h]
    obtain ⟨d,rfl⟩:∃d,t=s+d:=⟨t-s,by omega⟩
    rw[Nat.pow_add,Nat.mul_assoc,Nat.gcd_mul_left,gcd_two ha]
  · rw[Nat.min_eq_right h]
    obtain ⟨d,rfl⟩:∃d,s=t+d:=⟨s-t,by omega⟩
    rw[Nat.pow_add,Nat.mul_assoc,Nat.gcd_mul_left,Nat.gcd_comm (2^d*a),gcd_two hb,Nat.gcd_comm b a]
def bl:Nat→Nat→Nat
  | 0,_=>0
  | k+1,x=>if x=0 then 0 else bl k (x / 2)+1
theorem bl_zero (k:Nat):bl k 0=0:=by cases k<;>simp[bl]
theorem bl_spec:∀(k x:Nat),x<2^k→x<2^bl k x∧(0<x→0<bl k x∧2^(bl k x-1)≤x)∧bl k x≤k:=by
  intro k
  induction k with
  | zero=>intro x h;simp[bl] at *;omega
  | succ k ih =>
    intro x h
    by_cases h0:x=0
    · subst h0;rw[bl_zero];simp
    · have e:bl (k+1) x=bl k (x / 2)+1:=by simp[bl,h0]
      rw[Nat.pow_succ] at h
      obtain ⟨a1,a2,a3⟩:=ih (x / 2) (by omega)
      rw[e]
      refine ⟨by rw[Nat.pow_succ];omega,fun _=>⟨by omega,?_⟩,by omega⟩
      rw[Nat.add_sub_cancel]
      by_cases h1:x / 2=0
      · rw[h1,bl_zero];simp;omega
      · obtain ⟨b1,b2⟩:=a2 (by omega)
        have:2^bl k (x / 2)=2^(bl k (x / 2)-1)*2:=by rw[←Nat.pow_succ];congr 1;omega
        omega
theorem bl_unique {k x b:Nat} (h:x<2^k) (h0:0<x) (h1:2^b≤x) (h2:x<2^(b+1)):bl k x=b+1:=by
  obtain ⟨a1,a2,_⟩:=bl_spec k x h
  obtain ⟨c1,c2⟩:=a2 h0
  have d1:b<bl k x:=by
    rcases Nat.lt_or_ge b (bl k x) with q | q
    · exact q
    · have:=Nat.pow_le_pow_right (show 0<2 by decide) q;omega
  have d2:bl k x-1<b+1:=by
    rcases Nat.lt_or_ge (bl k x-1) (b+1) with q | q
    · exact q
    · have:=Nat.pow_le_pow_right (show 0<2 by decide) q;omega
  omega
theorem div_step {A D L i q r:Nat} (hD:0<D) (h:A / 2^(i+1)=D*q+r) (hr:r<D) :
    (D≤2*r+A / 2^i % 2→A / 2^i=D*(2*q+1)+(2*r+A / 2^i % 2-D)∧2*r+A / 2^i % 2-D<D) ∧
    (2*r+A / 2^i % 2<D→A / 2^i=D*(2*q)+(2*r+A / 2^i % 2)):=by
  rw[Nat.pow_succ,←Nat.div_div_eq_div_mul] at h
  have h1:=Nat.div_add_mod (A / 2^i) 2
  rw[h] at h1
  have e1:2*(D*q+r)=D*(2*q)+2*r:=by rw[Nat.mul_add,Nat.mul_left_comm]
  have e2:D*(2*q+1)=D*(2*q)+D:=by rw[Nat.mul_add,Nat.mul_one]
  generalize D*(2*q)=Z at *
  constructor
  · intro k;rw[e2];omega
  · intro k;omega
end Go.Plim

namespace Go.Plim
set_option linter.unusedVariables false
def ofN (x:Nat):Wd:=(((x / 18446744073709551616:Nat):Int),((x % 18446744073709551616:Nat):Int))
theorem mkW_nat (x:Nat):mkW (x:Int)=ofN x:=by
  unfold mkW ofN;rw[Prod.mk.injEq];constructor<;>omega
theorem wv_ofN (x:Nat):wv (ofN x)=x:=by rw[←mkW_nat,wv_mkW]
theorem ofN_ok {x:Nat} (h:x<340282366920938463463374607431768211456):WdOk (ofN x):=by rw[←mkW_nat];exact mkW_ok (by omega) (by omega)
theorem ofN_zero (x:Nat):(decide ((ofN x).1=(0:Int))&&decide ((ofN x).2=(0:Int)))=decide (x=0):=by
  rw[←Bool.decide_and]
  apply decide_eq_decide.2
  unfold ofN
  simp only
  omega
def od (x:Nat):Nat:=x / 2^tz 128 x
theorem od_spec {x:Nat} (h0:0<x) (h1:x<340282366920938463463374607431768211456):tz 128 x<128∧x=2^tz 128 x*od x∧od x % 2=1 :=
  tz_spec 128 x h0 h1
theorem od_pos {x:Nat} (h0:0<x) (h1:x<340282366920938463463374607431768211456):0<od x:=by
  have:=(od_spec h0 h1).2.2
  rcases Nat.eq_zero_or_pos (od x) with q | q
  · rw[q] at this;cases this
  · exact q
theorem od_le (x:Nat):od x≤x:=Nat.div_le_self _ _
theorem od_even {x:Nat} (h0:0<x) (h1:x<340282366920938463463374607431768211456) (he:x % 2=0):2*od x≤x:=by
  obtain ⟨_,a2,a3⟩:=od_spec h0 h1
  have ht:1≤tz 128 x:=by
    rcases Nat.eq_zero_or_pos (tz 128 x) with q | q
    · rw[q] at a2;simp at a2;omega
    · exact q
  have:2^1≤2^tz 128 x:=Nat.pow_le_pow_right (by decide) ht
  have:=Nat.mul_le_mul_right (od x) this
  omega
theorem gcd_od {a x:Nat} (ha:a % 2=1) (h0:0<x) (h1:x<340282366920938463463374607431768211456):Nat.gcd a (od x)=Nat.gcd a x:=by
  obtain ⟨_,a2,_⟩:=od_spec h0 h1
  have:=gcd_two (b:=od x) ha (tz 128 x)
  rw[←a2] at this
  exact this.symm
theorem gcd_whole {x y:Nat} (hx:0<x) (hx':x<340282366920938463463374607431768211456) (hy:0<y) (hy':y<340282366920938463463374607431768211456) :
    Nat.gcd x y=Nat.gcd (od x) y*2^(min (tz 128 x) (tz 128 y)):=by
  obtain ⟨_,a2,a3⟩:=od_spec hx hx'
  obtain ⟨_,b2,b3⟩:=od_spec hy hy'
  rw[gcd_parts a2 b2 a3 b3,gcd_od a3 hy hy',Nat.mul_comm]
theorem or_pow {q k:Nat} (h:2^(k+1) ∣ q):q ||| 2^k=q+2^k:=by
  obtain ⟨m,rfl⟩:=h
  exact (Nat.two_pow_add_eq_or_of_lt (i:=k+1) (b:=2^k) (by rw[Nat.pow_succ];have:=Nat.two_pow_pos k;omega) m).symm
theorem div_part {a d k q:Nat} (hd:0<d) (h:d*2^k≤a):q+2^k+(a-d*2^k) / d=q+a / d:=by
  have e:a=(a-d*2^k)+d*2^k:=by omega
  have:a / d=(a-d*2^k) / d+2^k:=by
    conv=>lhs;rw[e]
    rw[Nat.add_mul_div_left _ _ hd]
  omega
theorem half_up {x k:Nat} (hk:k<64) (h:x*2^k<340282366920938463463374607431768211456) :
    x / 18446744073709551616*2^k+x % 18446744073709551616 / 2^(64-k)=x*2^k / 18446744073709551616∧x % 18446744073709551616 / 2^(64-k)<2^k ∧
    x % 18446744073709551616*2^k % 18446744073709551616=x*2^k % 18446744073709551616:=by
  have e:18446744073709551616=2^(64-k)*2^k:=by rw[←Nat.pow_add,show 64-k+k=64 by omega]
  have hp:=Nat.two_pow_pos k
  have hq:=Nat.two_pow_pos (64-k)
  have h0:=Nat.div_add_mod x 18446744073709551616
  have h1:=Nat.mod_lt x (show 0<18446744073709551616 by decide)
  generalize x / 18446744073709551616=H at *
  generalize x % 18446744073709551616=L at *
  subst h0
  have e1:(18446744073709551616*H+L)*2^k=L*2^k+18446744073709551616*(H*2^k):=by rw[Nat.add_mul,Nat.mul_assoc];omega
  have e2:L*2^k / 18446744073709551616=L / 2^(64-k):=by
    conv=>lhs;rw[e]
    exact Nat.mul_div_mul_right _ _ hp
  refine ⟨?_,?_,?_⟩
  · rw[e1,Nat.add_mul_div_left _ _ (by decide),e2];omega
  · exact Nat.div_lt_of_lt_mul (by rw[←e];exact h1)
  · rw[e1,Nat.add_mul_mod_self_left]
theorem half_down {x k:Nat} (hk:k<64) (h:x<340282366920938463463374607431768211456) :
    x / 18446744073709551616 / 2^k=x / 2^k / 18446744073709551616 ∧
    x % 18446744073709551616 / 2^k+x / 18446744073709551616*2^(64-k) % 18446744073709551616=x / 2^k % 18446744073709551616∧x % 18446744073709551616 / 2^k<2^(64-k) ∧
    ∃m,x / 18446744073709551616*2^(64-k) % 18446744073709551616=2^(64-k)*m:=by
  have e:18446744073709551616=2^k*2^(64-k):=by rw[←Nat.pow_add,show k+(64-k)=64 by omega]
  have hp:=Nat.two_pow_pos k
  have hq:=Nat.two_pow_pos (64-k)
  have c1:x / 18446744073709551616 / 2^k=x / 2^k / 18446744073709551616:=by rw[Nat.div_div_eq_div_mul,Nat.div_div_eq_div_mul,Nat.mul_comm]
  have h0:=Nat.div_add_mod x 18446744073709551616
  have h1:=Nat.mod_lt x (show 0<18446744073709551616 by decide)
  have hm0:∀H:Nat,H*2^(64-k) % 18446744073709551616=2^(64-k)*(H % 2^k):=by
    intro H
    conv=>lhs;rw[e]
    rw[Nat.mul_mod_mul_right,Nat.mul_comm]
  have hm:=hm0 (x / 18446744073709551616)
  have c3:x % 18446744073709551616 / 2^k<2^(64-k):=Nat.div_lt_of_lt_mul (by rw[←e];exact h1)
  refine ⟨c1,?_,c3,_,hm⟩
  rw[hm]
  generalize x / 18446744073709551616=H at *
  generalize x % 18446744073709551616=L at *
  subst h0
  have e1:(18446744073709551616*H+L) / 2^k=L / 2^k+2^(64-k)*H:=by
    conv=>lhs;rw[e]
    rw[Nat.mul_assoc,Nat.add_comm,Nat.add_mul_div_left _ _ hp]
  have h2:=Nat.div_add_mod H (2^k)
  have e2:2^(64-k)*H=18446744073709551616*(H / 2^k)+2^(64-k)*(H % 2^k):=by
    conv=>lhs;rw[←h2]
    rw[Nat.mul_add,←Nat.mul_assoc,Nat.mul_comm (2^(64-k)),←e]
  rw[e1,e2]
  have hlt:L / 2^k+2^(64-k)*(H % 2^k)<18446744073709551616:=by
    have h3:=Nat.mod_lt H hp
    have h4:2^(64-k)*(H % 2^k+1)≤2^(64-k)*2^k:=Nat.mul_le_mul_left _ h3
    rw[Nat.mul_comm (2^(64-k)) (2^k),←e,Nat.mul_add,Nat.mul_one] at h4
    omega
  omega
end Go.Plim

namespace Go.Plim
set_option linter.unusedVariables false
theorem compl_and:∀(k a b:Nat),a+b+1=2^k→a &&& b=0:=by
  intro k
  induction k with
  | zero => intro a b h; have : a = 0 := by simp at h; omega
            rw[this];simp
  | succ k ih =>
    intro a b h
    rw[Nat.pow_succ] at h
    have h1:(a &&& b) % 2≠1:=by rw[ne_eq,Nat.and_mod_two_eq_one];omega
    have h2:(a &&& b) / 2=0:=by rw[Nat.and_div_two];exact ih _ _ (by omega)
    omega
theorem low_bit {x:Nat} (h0:0<x) (h:x<18446744073709551616):x &&& (18446744073709551616-x)=2^tz 64 x:=by
  obtain ⟨a1,a2,a3⟩:=tz_spec 64 x h0 h
  generalize hs:tz 64 x=s at *
  generalize x / 2^s=o at *
  have e:18446744073709551616=2^s*2^(64-s):=by rw[←Nat.pow_add,show s+(64-s)=64 by omega]
  have hp:=Nat.two_pow_pos s
  have e1:18446744073709551616-x=2^s*(2^(64-s)-o):=by rw[Nat.mul_sub,←e,←a2]
  have ho:o<2^(64-s):=by
    rcases Nat.lt_or_ge o (2^(64-s)) with q | q
    · exact q
    · have:=Nat.mul_le_mul_left (2^s) q;rw[←e,←a2] at this;omega
  obtain ⟨c,hc⟩:∃c,2^(64-s)=2*2^c:=⟨63-s,by rw[show 64-s=(63-s)+1 by omega,Nat.pow_succ,Nat.mul_comm]⟩
  have e2:o &&& (2^(64-s)-o)=1:=by
    have h1:(o &&& (2^(64-s)-o)) % 2=1:=by rw[Nat.and_mod_two_eq_one];omega
    have h2:(o &&& (2^(64-s)-o)) / 2=0:=by rw[Nat.and_div_two];exact compl_and c _ _ (by omega)
    omega
  rw[e1]
  conv=>lhs;rw[a2]
  rw[Nat.mul_comm (2^s) o,Nat.mul_comm (2^s),←Nat.shiftLeft_eq,←Nat.shiftLeft_eq,←Nat.shiftLeft_and_distrib,e2,Nat.shiftLeft_eq,Nat.one_mul]
theorem tz_lo {x:Nat} (h:x<340282366920938463463374607431768211456) (h0:0<x % 18446744073709551616):tz 128 x=tz 64 (x % 18446744073709551616):=by
  obtain ⟨a1,a2,a3⟩:=tz_spec 64 _ h0 (Nat.mod_lt x (by decide))
  generalize tz 64 (x % 18446744073709551616)=s at *
  have e:18446744073709551616=2^s*(2*2^(63-s)):=by rw[←Nat.pow_succ',←Nat.pow_add,show s+(63-s).succ=64 by omega]
  have hp:=Nat.two_pow_pos s
  have h2:=Nat.div_add_mod x 18446744073709551616
  generalize x % 18446744073709551616=L at *
  generalize x / 18446744073709551616=H at *
  generalize L / 2^s=o at *
  have e1:x=2^s*(2*(2^(63-s)*H)+o):=by
    rw[Nat.mul_add,←a2,←Nat.mul_assoc 2,←Nat.mul_assoc (2^s),←e];omega
  refine tz_unique (by omega) h ?_ ?_
  · rw[e1,Nat.mul_mod_right]
  · rw[e1,Nat.mul_div_cancel_left _ hp];omega
theorem tz_hi {x:Nat} (h:x<340282366920938463463374607431768211456) (h0:x % 18446744073709551616=0) (hx:0<x):tz 128 x=64+tz 64 (x / 18446744073709551616):=by
  have hH:0<x / 18446744073709551616:=by omega
  obtain ⟨a1,a2,a3⟩:=tz_spec 64 _ hH (by omega)
  generalize tz 64 (x / 18446744073709551616)=s at *
  have h2:=Nat.div_add_mod x 18446744073709551616
  generalize x / 18446744073709551616=H at *
  generalize H / 2^s=o at *
  have hp:=Nat.two_pow_pos (64+s)
  have e1:x=2^(64+s)*o:=by
    rw[Nat.pow_add,Nat.mul_assoc,←a2];omega
  refine tz_unique hx h ?_ ?_
  · rw[e1,Nat.mul_mod_right]
  · rw[e1,Nat.mul_div_cancel_left _ hp];exact a3
theorem bl_shift {k x s:Nat} (h:x<2^k) (hs:2^s≤x):bl k x=s+bl k (x / 2^s):=by
  have hp:=Nat.two_pow_pos s
  have h0:0<x / 2^s:=Nat.div_pos hs hp
  have h1:x / 2^s<2^k:=Nat.lt_of_le_of_lt (Nat.div_le_self _ _) h
  obtain ⟨a1,a2,a3⟩:=bl_spec k (x / 2^s) h1
  obtain ⟨b1,b2⟩:=a2 h0
  obtain ⟨c,hc⟩:∃c,bl k (x / 2^s)=c+1:=⟨bl k (x / 2^s)-1,by omega⟩
  rw[hc] at a1 b2 ⊢
  rw[Nat.add_sub_cancel] at b2
  rw[←Nat.add_assoc]
  refine bl_unique h (by omega) ?_ ?_
  · rw[Nat.pow_add,Nat.mul_comm]
    exact (Nat.le_div_iff_mul_le hp).1 b2
  · rw[Nat.add_assoc,Nat.pow_add,Nat.mul_comm]
    exact (Nat.div_lt_iff_lt_mul hp).1 a1
theorem bl_wider {k m x:Nat} (h:x<2^k) (h':x<2^m):bl k x=bl m x:=by
  rcases Nat.eq_zero_or_pos x with q | q
  · subst q;rw[bl_zero,bl_zero]
  · obtain ⟨a1,a2,_⟩:=bl_spec m x h'
    obtain ⟨b1,b2⟩:=a2 q
    obtain ⟨c,hc⟩:∃c,bl m x=c+1:=⟨bl m x-1,by omega⟩
    rw[hc] at a1 b2 ⊢
    rw[Nat.add_sub_cancel] at b2
    exact bl_unique h q b2 a1
theorem bl_up {a d k:Nat} (ha:a<2^128) (hd:d<2^128) (hk:bl 128 d+k≤bl 128 a) (h0:0<a):d*2^k<2^128:=by
  obtain ⟨a1,a2,a3⟩:=bl_spec 128 a ha
  obtain ⟨d1,d2,d3⟩:=bl_spec 128 d hd
  have h1:d*2^k<2^bl 128 d*2^k:=Nat.mul_lt_mul_of_pos_right d1 (Nat.two_pow_pos k)
  rw[←Nat.pow_add] at h1
  exact Nat.lt_of_lt_of_le h1 (Nat.pow_le_pow_right (by decide) (by omega))
theorem bl_over {a d:Nat} (ha:a<2^128) (hd:d<2^128) (h0:0<d):a<d*2^(bl 128 a-bl 128 d+1):=by
  obtain ⟨a1,a2,a3⟩:=bl_spec 128 a ha
  obtain ⟨d1,d2,d3⟩:=bl_spec 128 d hd
  obtain ⟨b1,b2⟩:=d2 h0
  have h1:2^(bl 128 d-1)*2^(bl 128 a-bl 128 d+1)≤d*2^(bl 128 a-bl 128 d+1):=Nat.mul_le_mul_right _ b2
  rw[←Nat.pow_add] at h1
  have h2:2^bl 128 a≤2^(bl 128 d-1+(bl 128 a-bl 128 d+1)):=Nat.pow_le_pow_right (by decide) (by omega)
  omega
theorem bl_less {a d:Nat} (ha:a<2^128) (hd:d<2^128) (h:bl 128 a<bl 128 d):a<d:=by
  obtain ⟨a1,a2,a3⟩:=bl_spec 128 a ha
  obtain ⟨d1,d2,d3⟩:=bl_spec 128 d hd
  rcases Nat.eq_zero_or_pos d with q | q
  · subst q;rw[bl_zero] at h;omega
  · obtain ⟨b1,b2⟩:=d2 q
    have:2^bl 128 a≤2^(bl 128 d-1):=Nat.pow_le_pow_right (by decide) (by omega)
    omega
def byt (v j:Nat):Nat:=v / 256^j % 256
theorem byt_or {v i:Nat} (h:2^(i+1) ∣ v) (j:Nat):byt (v+2^i) j=if i / 8=j then byt v j ||| 2^(i % 8) else byt v j:=by
  unfold byt
  have e:(256:Nat)^j=2^(8*j):=by rw[Nat.pow_mul]
  rw[←or_pow h,e,Nat.or_div_two_pow,show (256:Nat)=2^8 from rfl,Nat.or_mod_two_pow]
  have e2:2^i / 2^(8*j) % 2^8=if i / 8=j then 2^(i % 8) else 0:=by
    rcases Nat.lt_or_ge i (8*j) with q | q
    · rw[Nat.div_eq_of_lt (Nat.pow_lt_pow_right (by decide) q),if_neg (by omega)]
    · rw[Nat.pow_div q (by decide)]
      split
      · rw[show i-8*j=i % 8 by omega]
        exact Nat.mod_eq_of_lt (Nat.pow_lt_pow_right (by decide) (Nat.mod_lt _ (by decide)))
      · obtain ⟨c,hc⟩:∃c,i-8*j=8+c:=⟨i-8*j-8,by omega⟩
        rw[hc,Nat.pow_add,Nat.mul_mod_right]
  rw[e2]
  split
  · rfl
  · rw[Nat.or_zero]
theorem byt_lt (v j:Nat):byt v j<256:=Nat.mod_lt _ (by decide)
theorem bit_byt (v i:Nat):byt v (i / 8) / 2^(i % 8) % 2=v / 2^i % 2:=by
  unfold byt
  have e:(256:Nat)^(i / 8)=2^(8*(i / 8)):=by rw[Nat.pow_mul]
  obtain ⟨c,hc⟩:∃c,(256:Nat)=2^(i % 8)*(2*2^c):=⟨7-i % 8,by rw[←Nat.pow_succ',←Nat.pow_add,show i % 8+(7-i % 8).succ=8 by have:=Nat.mod_lt i (show 0<8 by decide);omega]⟩
  rw[e]
  generalize hw:v / 2^(8*(i / 8))=w
  have e1:v / 2^i=w / 2^(i % 8):=by
    rw[←hw,Nat.div_div_eq_div_mul,←Nat.pow_add,show 8*(i / 8)+i % 8=i by omega]
  rw[e1]
  conv=>lhs;rw[hc]
  rw[Nat.mod_mul_right_div_self,Nat.mod_mul_right_mod]
end Go.Plim

namespace Go.Proofs.YtjeabebacegikaaGreatDoor
open Go.Flat Go.Plim
set_option linter.unusedVariables false
set_option linter.unusedSimpArgs false
theorem wrapN (x:Nat):IntKind.wrap .u64 (x:Int)=((x % 18446744073709551616:Nat):Int):=by
  rw[IntKind.wrap_u64];omega
theorem shlN (x k:Nat) (hk:k≤64):shlI .u64 (x:Int) (k:Int)=((x*2^k % 18446744073709551616:Nat):Int):=by
  show IntKind.wrap .u64 ((x:Int)*2^(min (k:Int).toNat 64))=_
  rw[show min (k:Int).toNat 64=k by omega,←wrapN]
  congr 1
theorem shrN (x k:Nat) (hk:k≤64):shrI .u64 (x:Int) (k:Int)=((x / 2^k:Nat):Int):=by
  rw[shr_nat _ _ hk];simp
theorem orN {x y:Nat} (hx:x<18446744073709551616) (hy:y<18446744073709551616):orI .u64 (x:Int) (y:Int)=((x ||| y:Nat):Int):=by
  unfold orI
  have e2:(BitVec.ofInt IntKind.u64.bits (x:Int) ||| BitVec.ofInt IntKind.u64.bits (y:Int)).toNat=x ||| y:=by
    show (BitVec.ofInt 64 (x:Int) ||| BitVec.ofInt 64 (y:Int)).toNat=_
    rw[BitVec.toNat_or,BitVec.ofInt_natCast,BitVec.ofInt_natCast,BitVec.toNat_ofNat,BitVec.toNat_ofNat,Nat.mod_eq_of_lt (by omega),Nat.mod_eq_of_lt (by omega)]
  rw[e2]
  have:x ||| y<2^64:=Nat.or_lt_two_pow (by omega) (by omega)
  exact wu64 (by omega) (by omega)
theorem andN {x y:Nat} (hx:x<18446744073709551616) (hy:y<18446744073709551616):andI .u64 (x:Int) (y:Int)=((x &&& y:Nat):Int):=by
  unfold andI
  have e2:(BitVec.ofInt IntKind.u64.bits (x:Int) &&& BitVec.ofInt IntKind.u64.bits (y:Int)).toNat=x &&& y:=by
    show (BitVec.ofInt 64 (x:Int) &&& BitVec.ofInt 64 (y:Int)).toNat=_
    rw[BitVec.toNat_and,BitVec.ofInt_natCast,BitVec.ofInt_natCast,BitVec.toNat_ofNat,BitVec.toNat_ofNat,Nat.mod_eq_of_lt (by omega),Nat.mod_eq_of_lt (by omega)]
  rw[e2]
  have:x &&& y≤x:=Nat.and_le_left
  exact wu64 (by omega) (by omega)
theorem or_parts {H L k:Nat} (h:L<2^k):H*2^k ||| L=H*2^k+L:=by
  rw[Nat.mul_comm]
  exact (Nat.two_pow_add_eq_or_of_lt h H).symm
end Go.Proofs.YtjeabebacegikaaGreatDoor
namespace Go.Proofs.YtjeabebacegikaaGreatDoor
open Go.Flat Go.Plim
set_option linter.unusedVariables false
def lenT:List UInt8 :=
  ((((0:UInt8)::((1:UInt8)::((2:UInt8)::((2:UInt8)::((3:UInt8)::((3:UInt8)::((3:UInt8)::((3:UInt8)::((4:UInt8)::((4:UInt8)::((4:UInt8)::((4:UInt8)::((4:UInt8)::((4:UInt8)::((4:UInt8)::((4:UInt8)::((5:UInt8)::((5:UInt8)::((5:UInt8)::((5:UInt8)::((5:UInt8)::((5:UInt8)::((5:UInt8)::((5:UInt8)::((5:UInt8)::((5:UInt8)::((5:UInt8)::((5:UInt8)::((5:UInt8)::((5:UInt8)::((5:UInt8)::((5:UInt8)::((6:UInt8)::((6:UInt8)::((6:UInt8)::((6:UInt8)::((6:UInt8)::((6:UInt8)::((6:UInt8)::((6:UInt8)::((6:UInt8)::((6:UInt8)::((6:UInt8)::((6:UInt8)::((6:UInt8)::((6:UInt8)::((6:UInt8)::((6:UInt8)::((6:UInt8)::((6:UInt8)::((6:UInt8)::((6:UInt8)::((6:UInt8)::((6:UInt8)::((6:UInt8)::((6:UInt8)::((6:UInt8)::((6:UInt8)::((6:UInt8)::((6:UInt8)::((6:UInt8)::((6:UInt8)::((6:UInt8)::((6:UInt8)::[]))))))))))))))))))))))))))))))))))))))))))))))))))))))))))))))))++((7:UInt8)::((7:UInt8)::((7:UInt8)::((7:UInt8)::((7:UInt8)::((7:UInt8)::((7:UInt8)::((7:UInt8)::((7:UInt8)::((7:UInt8)::((7:UInt8)::((7:UInt8)::((7:UInt8)::((7:UInt8)::((7:UInt8)::((7:UInt8)::((7:UInt8)::((7:UInt8)::((7:UInt8)::((7:UInt8)::((7:UInt8)::((7:UInt8)::((7:UInt8)::((7:UInt8)::((7:UInt8)::((7:UInt8)::((7:UInt8)::((7:UInt8)::((7:UInt8)::((7:UInt8)::((7:UInt8)::((7:UInt8)::((7:UInt8)::((7:UInt8)::((7:UInt8)::((7:UInt8)::((7:UInt8)::((7:UInt8)::((7:UInt8)::((7:UInt8)::((7:UInt8)::((7:UInt8)::((7:UInt8)::((7:UInt8)::((7:UInt8)::((7:UInt8)::((7:UInt8)::((7:UInt8)::((7:UInt8)::((7:UInt8)::((7:UInt8)::((7:UInt8)::((7:UInt8)::((7:UInt8)::((7:UInt8)::((7:UInt8)::((7:UInt8)::((7:UInt8)::((7:UInt8)::((7:UInt8)::((7:UInt8)::((7:UInt8)::((7:UInt8)::((7:UInt8)::[])))))))))))))))))))))))))))))))))))))))))))))))))))))))))))))))))++(((8:UInt8)::((8:UInt8)::((8:UInt8)::((8:UInt8)::((8:UInt8)::((8:UInt8)::((8:UInt8)::((8:UInt8)::((8:UInt8)::((8:UInt8)::((8:UInt8)::((8:UInt8)::((8:UInt8)::((8:UInt8)::((8:UInt8)::((8:UInt8)::((8:UInt8)::((8:UInt8)::((8:UInt8)::((8:UInt8)::((8:UInt8)::((8:UInt8)::((8:UInt8)::((8:UInt8)::((8:UInt8)::((8:UInt8)::((8:UInt8)::((8:UInt8)::((8:UInt8)::((8:UInt8)::((8:UInt8)::((8:UInt8)::((8:UInt8)::((8:UInt8)::((8:UInt8)::((8:UInt8)::((8:UInt8)::((8:UInt8)::((8:UInt8)::((8:UInt8)::((8:UInt8)::((8:UInt8)::((8:UInt8)::((8:UInt8)::((8:UInt8)::((8:UInt8)::((8:UInt8)::((8:UInt8)::((8:UInt8)::((8:UInt8)::((8:UInt8)::((8:UInt8)::((8:UInt8)::((8:UInt8)::((8:UInt8)::((8:UInt8)::((8:UInt8)::((8:UInt8)::((8:UInt8)::((8:UInt8)::((8:UInt8)::((8:UInt8)::((8:UInt8)::((8:UInt8)::[]))))))))))))))))))))))))))))))))))))))))))))))))))))))))))))))))++((8:UInt8)::((8:UInt8)::((8:UInt8)::((8:UInt8)::((8:UInt8)::((8:UInt8)::((8:UInt8)::((8:UInt8)::((8:UInt8)::((8:UInt8)::((8:UInt8)::((8:UInt8)::((8:UInt8)::((8:UInt8)::((8:UInt8)::((8:UInt8)::((8:UInt8)::((8:UInt8)::((8:UInt8)::((8:UInt8)::((8:UInt8)::((8:UInt8)::((8:UInt8)::((8:UInt8)::((8:UInt8)::((8:UInt8)::((8:UInt8)::((8:UInt8)::((8:UInt8)::((8:UInt8)::((8:UInt8)::((8:UInt8)::((8:UInt8)::((8:UInt8)::((8:UInt8)::((8:UInt8)::((8:UInt8)::((8:UInt8)::((8:UInt8)::((8:UInt8)::((8:UInt8)::((8:UInt8)::((8:UInt8)::((8:UInt8)::((8:UInt8)::((8:UInt8)::((8:UInt8)::((8:UInt8)::((8:UInt8)::((8:UInt8)::((8:UInt8)::((8:UInt8)::((8:UInt8)::((8:UInt8)::((8:UInt8)::((8:UInt8)::((8:UInt8)::((8:UInt8)::((8:UInt8)::((8:UInt8)::((8:UInt8)::((8:UInt8)::((8:UInt8)::((8:UInt8)::[]))))))))))))))))))))))))))))))))))))))))))))))))))))))))))))))))))
theorem len64_tree (n:Nat) (x:Int):math_bits_Len64 (n+1) x =
  tif ((decide ((4294967296:Int)≤x))) (
  tif ((decide ((65536:Int)≤(shrI .u64 x (32:Int))))) (
  tif ((decide ((256:Int)≤(shrI .u64 (shrI .u64 x (32:Int)) (16:Int))))) (
  obind (at? lenT (IntKind.wrap .u8 (shrI .u64 (shrI .u64 (shrI .u64 x (32:Int)) (16:Int)) (8:Int)))) fun r0 =>
  some (IntKind.wrap .i64 ((56:Int)+(IntKind.wrap .i64 (((UInt8.toNat r0):Nat):Int))))) (
  obind (at? lenT (IntKind.wrap .u8 (shrI .u64 (shrI .u64 x (32:Int)) (16:Int)))) fun r1 =>
  some (IntKind.wrap .i64 ((48:Int)+(IntKind.wrap .i64 (((UInt8.toNat r1):Nat):Int)))))) (
  tif ((decide ((256:Int)≤(shrI .u64 x (32:Int))))) (
  obind (at? lenT (IntKind.wrap .u8 (shrI .u64 (shrI .u64 x (32:Int)) (8:Int)))) fun r2 =>
  some (IntKind.wrap .i64 ((40:Int)+(IntKind.wrap .i64 (((UInt8.toNat r2):Nat):Int))))) (
  obind (at? lenT (IntKind.wrap .u8 (shrI .u64 x (32:Int)))) fun r3 =>
  some (IntKind.wrap .i64 ((32:Int)+(IntKind.wrap .i64 (((UInt8.toNat r3):Nat):Int))))))) (
  tif ((decide ((65536:Int)≤x))) (
  tif ((decide ((256:Int)≤(shrI .u64 x (16:Int))))) (
  obind (at? lenT (IntKind.wrap .u8 (shrI .u64 (shrI .u64 x (16:Int)) (8:Int)))) fun r4 =>
  some (IntKind.wrap .i64 ((24:Int)+(IntKind.wrap .i64 (((UInt8.toNat r4):Nat):Int))))) (
  obind (at? lenT (IntKind.wrap .u8 (shrI .u64 x (16:Int)))) fun r5 =>
  some (IntKind.wrap .i64 ((16:Int)+(IntKind.wrap .i64 (((UInt8.toNat r5):Nat):Int)))))) (
  tif ((decide ((256:Int)≤x))) (
  obind (at? lenT (IntKind.wrap .u8 (shrI .u64 x (8:Int)))) fun r6 =>
  some (IntKind.wrap .i64 ((8:Int)+(IntKind.wrap .i64 (((UInt8.toNat r6):Nat):Int))))) (
  obind (at? lenT (IntKind.wrap .u8 x)) fun r7 =>
  some (IntKind.wrap .i64 ((0:Int)+(IntKind.wrap .i64 (((UInt8.toNat r7):Nat):Int))))))):=math_bits_Len64_eq n x
theorem lenT_all:((List.range 256).all fun z=>match lenT[z]? with | some r=>decide (r.toNat=bl 64 z) | none=>false)=true:=by decide +kernel
end Go.Proofs.YtjeabebacegikaaGreatDoor
namespace Go.Proofs.YtjeabebacegikaaGreatDoor
open Go.Flat Go.Plim
set_option linter.unusedVariables false
set_option linter.unusedSimpArgs false
theorem ratio_none_val (n x:Nat):ratio_none (n+1) (ofN x)=some (decide (x=0)):=by
  rw[ratio_none_eq,ofN_zero]
theorem up_small {x k:Nat} (hk:k≤128) (h:x*2^k<340282366920938463463374607431768211456):x<2^(128-k):=by
  have e:340282366920938463463374607431768211456=2^(128-k)*2^k:=by rw[←Nat.pow_add,show 128-k+k=128 by omega]
  rw[e] at h
  exact Nat.lt_of_mul_lt_mul_right h
theorem ratio_up_val (n x k:Nat) (hk:k<128) (h:x*2^k<340282366920938463463374607431768211456):ratio_up (n+1) (ofN x) (k:Int)=some (ofN (x*2^k)):=by
  rw[ratio_up_eq]
  simp only[tfd]
  by_cases c:64≤k
  · have e:(k:Int)-64=((k-64:Nat):Int):=by omega
    have hx:x<18446744073709551616:=Nat.lt_of_lt_of_le (up_small (by omega) h) (show 2^(128-k)≤2^64 from Nat.pow_le_pow_right (by decide) (by omega))
    have e2:x*2^k=18446744073709551616*(x*2^(k-64)):=by
      rw[show (18446744073709551616:Nat)=2^64 from rfl,Nat.mul_left_comm,←Nat.pow_add,show 64+(k-64)=k by omega]
    rw[if_pos (by omega),w64 (by omega) (by omega),if_neg (by omega),e]
    show some (shlI .u64 ((x % 18446744073709551616:Nat):Int) _,_)=some (((x*2^k / 18446744073709551616:Nat):Int),((x*2^k % 18446744073709551616:Nat):Int))
    rw[shlN _ _ (by omega),Nat.mod_eq_of_lt hx,e2,Nat.mul_div_cancel_left _ (by decide),Nat.mul_mod_right]
    rw[e2] at h
    have:x*2^(k-64)<18446744073709551616:=Nat.lt_of_mul_lt_mul_left (show 18446744073709551616*(x*2^(k-64))<18446744073709551616*18446744073709551616 from h)
    rw[Nat.mod_eq_of_lt this];rfl
  · have e:(64:Int)-k=((64-k:Nat):Int):=by omega
    obtain ⟨a1,a2,a3⟩:=half_up (show k<64 by omega) h
    rw[if_neg (by omega),if_neg (by omega),w64 (by omega) (by omega),if_neg (by omega),if_neg (by omega),e]
    show some (orI .u64 (shlI .u64 ((x / 18446744073709551616:Nat):Int) _) (shrI .u64 ((x % 18446744073709551616:Nat):Int) _),shlI .u64 ((x % 18446744073709551616:Nat):Int) _)=some (((x*2^k / 18446744073709551616:Nat):Int),((x*2^k % 18446744073709551616:Nat):Int))
    have hq:x*2^k / 18446744073709551616<18446744073709551616:=Nat.div_lt_of_lt_mul h
    have h1:x / 18446744073709551616*2^k<18446744073709551616:=Nat.lt_of_le_of_lt (by rw[←a1];exact Nat.le_add_right _ _) hq
    have h2:x % 18446744073709551616 / 2^(64-k)<18446744073709551616:=Nat.lt_of_le_of_lt (Nat.div_le_self _ _) (Nat.mod_lt _ (by decide))
    rw[shlN _ _ (by omega),shrN _ _ (by omega),shlN _ _ (by omega),Nat.mod_eq_of_lt h1,orN h1 h2,or_parts a2,a1,a3]
theorem ratio_down_val (n x k:Nat) (hk:k<128) (h:x<340282366920938463463374607431768211456):ratio_down (n+1) (ofN x) (k:Int)=some (ofN (x / 2^k)):=by
  rw[ratio_down_eq]
  simp only[tfd]
  have hq:x / 18446744073709551616<18446744073709551616:=Nat.div_lt_of_lt_mul h
  by_cases c:64≤k
  · have e:(k:Int)-64=((k-64:Nat):Int):=by omega
    rw[if_pos (by omega),w64 (by omega) (by omega),if_neg (by omega),e]
    show some (_,shrI .u64 ((x / 18446744073709551616:Nat):Int) _)=some (((x / 2^k / 18446744073709551616:Nat):Int),((x / 2^k % 18446744073709551616:Nat):Int))
    have e2:x / 2^k=x / 18446744073709551616 / 2^(k-64):=by
      rw[Nat.div_div_eq_div_mul,show (18446744073709551616:Nat)=2^64 from rfl,←Nat.pow_add,show 64+(k-64)=k by omega]
    have hlt:x / 18446744073709551616 / 2^(k-64)<18446744073709551616:=Nat.lt_of_le_of_lt (Nat.div_le_self _ _) hq
    rw[shrN _ _ (by omega),e2,Nat.div_eq_of_lt hlt,Nat.mod_eq_of_lt hlt];rfl
  · have e:(64:Int)-k=((64-k:Nat):Int):=by omega
    obtain ⟨a1,a2,a3,m,a4⟩:=half_down (show k<64 by omega) h
    rw[if_neg (by omega),if_neg (by omega),if_neg (by omega),w64 (by omega) (by omega),if_neg (by omega),e]
    show some (shrI .u64 ((x / 18446744073709551616:Nat):Int) _,orI .u64 (shrI .u64 ((x % 18446744073709551616:Nat):Int) _) (shlI .u64 ((x / 18446744073709551616:Nat):Int) _))=some (((x / 2^k / 18446744073709551616:Nat):Int),((x / 2^k % 18446744073709551616:Nat):Int))
    have h3:x % 18446744073709551616 / 2^k<18446744073709551616:=Nat.lt_of_le_of_lt (Nat.div_le_self _ _) (Nat.mod_lt _ (by decide))
    have h4:x / 18446744073709551616*2^(64-k) % 18446744073709551616<18446744073709551616:=Nat.mod_lt _ (by decide)
    rw[shrN _ _ (by omega),shrN _ _ (by omega),shlN _ _ (by omega),orN h3 h4,Nat.or_comm]
    have a4':x / 18446744073709551616*2^(64-k) % 18446744073709551616=m*2^(64-k):=by rw[Nat.mul_comm m];exact a4
    rw[a4',or_parts a3,←a4',Nat.add_comm]
    rw[show x % 18446744073709551616 / 2^k+x / 18446744073709551616*2^(64-k) % 18446744073709551616=x / 2^k % 18446744073709551616 from a2,show x / 18446744073709551616 / 2^k=x / 2^k / 18446744073709551616 from a1]
theorem wide_sub (n:Nat) {x y:Nat} (hx:x<340282366920938463463374607431768211456) (h:y≤x):wide_Sub (n+2) (ofN x) (ofN y)=some (ofN (x-y),0):=by
  rw[wide_Sub_eq]
  have h1:x / 18446744073709551616<18446744073709551616:=Nat.div_lt_of_lt_mul hx
  have h2:y / 18446744073709551616<18446744073709551616:=Nat.div_lt_of_lt_mul (Nat.lt_of_le_of_lt h hx)
  have h3:x % 18446744073709551616<18446744073709551616:=Nat.mod_lt _ (by decide)
  have h4:y % 18446744073709551616<18446744073709551616:=Nat.mod_lt _ (by decide)
  have e:∀z:Nat,ofN z=(((z / 18446744073709551616:Nat):Int),((z % 18446744073709551616:Nat):Int)):=fun _=>rfl
  rw[e x,e y,e (x-y)]
  have ex:=Nat.div_add_mod x 18446744073709551616
  have ey:=Nat.div_add_mod y 18446744073709551616
  have ez:=Nat.div_add_mod (x-y) 18446744073709551616
  have h5:(x-y) % 18446744073709551616<18446744073709551616:=Nat.mod_lt _ (by decide)
  generalize x / 18446744073709551616=a at *
  generalize x % 18446744073709551616=b at *
  generalize y / 18446744073709551616=c at *
  generalize y % 18446744073709551616=d at *
  generalize (x-y) / 18446744073709551616=p at *
  generalize (x-y) % 18446744073709551616=q at *
  simp only[tif_and,tfd,tft]
  by_cases hb:b<d
  · have hb':(b:Int)<(d:Int)+0:=by omega
    rw[if_pos (by omega),if_pos (by omega),if_pos (by omega),if_pos (by omega),if_pos (by omega),if_pos (by omega),if_pos hb',if_pos (by omega),if_pos (by omega),if_neg (by omega),wide_sure_val,obs,if_pos rfl]
    congr 3<;>omega
  · have hb':¬(b:Int)<(d:Int)+0:=by omega
    rw[if_pos (by omega),if_pos (by omega),if_pos (by omega),if_pos (by omega),if_pos (by omega),if_pos (by omega),if_neg hb',if_pos (by omega),if_pos (by omega),if_neg (by omega),wide_sure_val,obs,if_pos rfl]
    congr 3<;>omega
theorem ratio_less_val (n:Nat) {x y:Nat} (hx:x<340282366920938463463374607431768211456) (h:y≤x):ratio_less (n+3) (ofN x) (ofN y)=some (ofN (x-y)):=by
  rw[ratio_less_eq,wide_sub n hx h];rfl
theorem wide_lessN (n:Nat) {x y:Nat} (hx:x<340282366920938463463374607431768211456) (hy:y<340282366920938463463374607431768211456):wide_Less (n+1) (ofN x) (ofN y)=some (decide (x<y)):=by
  rw[wide_less n (ofN_ok hx) (ofN_ok hy),wv_ofN,wv_ofN]
  congr 1
  exact decide_eq_decide.2 (by omega)
theorem tz_pow (n:Nat):((List.range 64).all fun t=>match bits_tz64 (n+1) ((2^t:Nat):Int) with | some r=>decide (r=(t:Int)) | none=>false)=true:=by kernel_rfl
theorem tz_at (n t:Nat) (ht:t<64):bits_tz64 (n+1) ((2^t:Nat):Int)=some (t:Int):=by
  have h:=List.all_eq_true.1 (tz_pow n) t (List.mem_range.2 ht)
  split at h
  · rename_i r hr;rw[hr,of_decide_eq_true h]
  · cases h
theorem low_term {x:Nat} (h0:0<x) (h:x<18446744073709551616):andI .u64 (x:Int) (IntKind.wrap .u64 ((0:Int)-x))=((2^tz 64 x:Nat):Int):=by
  rw[show IntKind.wrap .u64 ((0:Int)-x)=((18446744073709551616-x:Nat):Int) by rw[IntKind.wrap_u64];omega,andN h (by omega)]
  exact congrArg Int.ofNat (low_bit h0 h)
theorem tz_val (n:Nat) {x:Nat} (h0:0<x) (h:x<18446744073709551616):bits_tz64 (n+1) (x:Int)=some ((tz 64 x:Nat):Int):=by
  have ht:=(tz_spec 64 x h0 h).1
  have hp:=Nat.two_pow_pos (tz 64 x)
  have hp2:2^tz 64 x<18446744073709551616:=Nat.pow_lt_pow_right (a:=2) (by decide) ht
  rw[←tz_at n _ ht]
  have e:tz 64 (2^tz 64 x)=tz 64 x:=tz_unique hp hp2 (Nat.mod_self _) (by rw[Nat.div_self hp])
  rw[bits_tz64_eq,bits_tz64_eq,low_term h0 h,low_term hp hp2,e,decide_eq_false (show ¬((x:Int)=0) by omega),decide_eq_false (show ¬(((2^tz 64 x:Nat):Int)=0) by omega)]
theorem noughts_val (n:Nat) {x:Nat} (h0:0<x) (h:x<340282366920938463463374607431768211456):ratio_noughts (n+2) (ofN x)=some ((tz 128 x:Nat):Int):=by
  rw[ratio_noughts_eq]
  show tif (decide (((x % 18446744073709551616:Nat):Int)=0)) (obind (bits_tz64 (n+1) ((x / 18446744073709551616:Nat):Int)) fun r0=>some (IntKind.wrap .i64 (64+r0))) (obind (bits_tz64 (n+1) ((x % 18446744073709551616:Nat):Int)) fun r1=>some r1)=_
  rw[tfd]
  by_cases c:x % 18446744073709551616=0
  · have h1:0<x / 18446744073709551616:=by omega
    have h2:x / 18446744073709551616<18446744073709551616:=Nat.div_lt_of_lt_mul h
    have ht:=(tz_spec 64 _ h1 h2).1
    rw[if_pos (by omega),tz_val n h1 h2,obs,w64 (by omega) (by omega),tz_hi h c h0]
    congr 1
  · rw[if_neg (by omega),tz_val n (by omega) (Nat.mod_lt _ (by decide)),obs,tz_lo h (by omega)]
theorem lenT_at {z:Nat} (h:z<256):∃r,at? lenT (z:Int)=some r∧r.toNat=bl 64 z:=by
  have h1:=List.all_eq_true.1 lenT_all z (List.mem_range.2 h)
  split at h1
  · rename_i r hr
    refine ⟨r,?_,of_decide_eq_true h1⟩
    unfold at?
    rw[decide_eq_true (by omega)]
    exact hr
  · cases h1
theorem len_leaf {x s K:Nat} {I S:Int} (hK:K=2^s) (hI:I=((x / K:Nat):Int)) (hS:S=s) (h2:x / K<256) (h1:K≤x∨s=0) (hx:x<18446744073709551616) (hs:s≤56) :
    (obind (at? lenT (IntKind.wrap .u8 I)) fun r=>some (IntKind.wrap .i64 (S+IntKind.wrap .i64 (((UInt8.toNat r):Nat):Int))))=some ((bl 64 x:Nat):Int):=by
  obtain ⟨r,hr,hb⟩:=lenT_at h2
  have hle:=(bl_spec 64 (x / K) (Nat.lt_of_le_of_lt (Nat.div_le_self _ _) hx)).2.2
  have e:bl 64 x=s+bl 64 (x / K):=by
    rcases h1 with h1 | rfl
    · rw[hK] at h1 ⊢
      exact bl_shift hx h1
    · subst hK;simp
  rw[hI,e]
  generalize x / K=z at *
  rw[wu8 (by omega) (by omega),hr,obs,hb,w64 (x:=((bl 64 z:Nat):Int)) (by omega) (by omega),hS,w64 (by omega) (by omega)]
  congr 1
theorem len64_val (n:Nat) {x:Nat} (h:x<18446744073709551616):math_bits_Len64 (n+1) (x:Int)=some ((bl 64 x:Nat):Int):=by
  have s32:∀z:Nat,shrI .u64 (z:Int) (32:Int)=((z / 4294967296:Nat):Int):=fun z=>shrN z 32 (by decide)
  have s16:∀z:Nat,shrI .u64 (z:Int) (16:Int)=((z / 65536:Nat):Int):=fun z=>shrN z 16 (by decide)
  have s8:∀z:Nat,shrI .u64 (z:Int) (8:Int)=((z / 256:Nat):Int):=fun z=>shrN z 8 (by decide)
  have h':=h
  rw[len64_tree]
  simp only[s32,s16,s8,tfd]
  by_cases c5:4294967296≤x
  · rw[if_pos (by omega)]
    by_cases c4:65536≤x / 4294967296
    · rw[if_pos (by omega)]
      by_cases c3:256≤x / 4294967296 / 65536
      · rw[if_pos (by omega)]
        exact len_leaf (s:=56) (K:=72057594037927936) rfl (by omega) rfl (by omega) (.inl (by omega)) h (by decide)
      · rw[if_neg (by omega)]
        exact len_leaf (s:=48) (K:=281474976710656) rfl (by omega) rfl (by omega) (.inl (by omega)) h (by decide)
    · rw[if_neg (by omega)]
      by_cases c3:256≤x / 4294967296
      · rw[if_pos (by omega)]
        exact len_leaf (s:=40) (K:=1099511627776) rfl (by omega) rfl (by omega) (.inl (by omega)) h (by decide)
      · rw[if_neg (by omega)]
        exact len_leaf (s:=32) (K:=4294967296) rfl (by omega) rfl (by omega) (.inl (by omega)) h (by decide)
  · rw[if_neg (by omega)]
    by_cases c4:65536≤x
    · rw[if_pos (by omega)]
      by_cases c3:256≤x / 65536
      · rw[if_pos (by omega)]
        exact len_leaf (s:=24) (K:=16777216) rfl (by omega) rfl (by omega) (.inl (by omega)) h (by decide)
      · rw[if_neg (by omega)]
        exact len_leaf (s:=16) (K:=65536) rfl (by omega) rfl (by omega) (.inl (by omega)) h (by decide)
    · rw[if_neg (by omega)]
      by_cases c3:256≤x
      · rw[if_pos (by omega)]
        exact len_leaf (s:=8) (K:=256) rfl (by omega) rfl (by omega) (.inl (by omega)) h (by decide)
      · rw[if_neg (by omega)]
        exact len_leaf (s:=0) (K:=1) rfl (by omega) rfl (by omega) (.inr rfl) h (by decide)
theorem long_val (n:Nat) {x:Nat} (h:x<340282366920938463463374607431768211456):ratio_long (n+2) (ofN x)=some ((bl 128 x:Nat):Int):=by
  rw[ratio_long_eq]
  show tif (!decide (((x / 18446744073709551616:Nat):Int)=0)) (obind (math_bits_Len64 (n+1) ((x / 18446744073709551616:Nat):Int)) fun r0=>some (IntKind.wrap .i64 (64+r0))) (obind (math_bits_Len64 (n+1) ((x % 18446744073709551616:Nat):Int)) fun r1=>some r1)=_
  have hq:x / 18446744073709551616<18446744073709551616:=Nat.div_lt_of_lt_mul h
  rw[tfn,tfd]
  by_cases c:x / 18446744073709551616=0
  · have hx:x<18446744073709551616:=by omega
    rw[if_pos (by omega),len64_val n (Nat.mod_lt _ (by decide)),obs,Nat.mod_eq_of_lt hx,bl_wider (k:=64) (m:=128) hx h]
  · have hle:=(bl_spec 64 (x / 18446744073709551616) hq).2.2
    rw[if_neg (by omega),len64_val n hq,obs,w64 (by omega) (by omega),bl_shift (k:=128) (s:=64) h (by omega)]
    rw[←bl_wider (k:=128) (m:=64) (x:=x / 18446744073709551616) (Nat.lt_of_lt_of_le hq (by decide)) hq]
    congr 1
theorem or_ofN {x y:Nat} (hx:x<340282366920938463463374607431768211456) (hy:y<340282366920938463463374607431768211456):((orI .u64 (ofN x).1 (ofN y).1,orI .u64 (ofN x).2 (ofN y).2):Wd)=ofN (x ||| y):=by
  show ((orI .u64 ((x / 18446744073709551616:Nat):Int) ((y / 18446744073709551616:Nat):Int),orI .u64 ((x % 18446744073709551616:Nat):Int) ((y % 18446744073709551616:Nat):Int)):Wd)=((((x ||| y) / 18446744073709551616:Nat):Int),(((x ||| y) % 18446744073709551616:Nat):Int))
  have e1:(x ||| y) / 18446744073709551616=x / 18446744073709551616 ||| y / 18446744073709551616:=Nat.or_div_two_pow (n:=64)
  have e2:(x ||| y) % 18446744073709551616=x % 18446744073709551616 ||| y % 18446744073709551616:=Nat.or_mod_two_pow (n:=64)
  rw[e1,e2,orN (Nat.div_lt_of_lt_mul hx) (Nat.div_lt_of_lt_mul hy),orN (Nat.mod_lt _ (by decide)) (Nat.mod_lt _ (by decide))]
theorem one_ofN:((0,1):Wd)=ofN 1:=rfl
theorem zero_ofN:((0,0):Wd)=ofN 0:=rfl
theorem whole_l3 (n:Nat) {d A:Nat} (hd:0<d) (hA:A<340282366920938463463374607431768211456) (hdM:d<340282366920938463463374607431768211456) (s4:Wd):∀(k f a q:Nat),q+a / d=A / d→a≤A→a<d*2^k→2^k ∣ q→(k=0∨d*2^(k-1)<340282366920938463463374607431768211456)→k≤128→k<f →
    ratio_whole_l3 (n+3) f (ofN a,ofN d,s4,ofN q,(k:Int)-1,())=some (.inl (s4,ofN (A / d),())):=by
  intro k
  induction k with
  | zero =>
    intro f a q h1 h2 h3 h4 h5 h6 hf
    obtain ⟨f,rfl⟩:∃g,f=g+1:=⟨f-1,by omega⟩
    rw[ratio_whole_l3_eq,decide_eq_false (by omega),tff]
    rw[Nat.pow_zero,Nat.mul_one] at h3
    rw[Nat.div_eq_of_lt h3,Nat.add_zero] at h1
    rw[h1]
  | succ k ih =>
    intro f a q h1 h2 h3 h4 h5 h6 hf
    obtain ⟨f,rfl⟩:∃g,f=g+1:=⟨f-1,by omega⟩
    have h5':d*2^k<340282366920938463463374607431768211456:=by
      rcases h5 with h | h
      · cases h
      · exact h
    have hk5:k=0∨d*2^(k-1)<340282366920938463463374607431768211456:=by
      rcases Nat.eq_zero_or_pos k with e | e
      · exact .inl e
      · refine .inr (Nat.lt_of_le_of_lt (Nat.mul_le_mul_left d (Nat.pow_le_pow_right (by decide) (Nat.sub_le _ _))) h5')
    have hpk:2^k<340282366920938463463374607431768211456:=Nat.lt_of_lt_of_le (Nat.pow_lt_pow_right (a:=2) (n:=128) (by decide) (by omega)) (by decide)
    have eb:((k+1:Nat):Int)-1=(k:Int):=by omega
    have hq2:2^k ∣ q:=Nat.dvd_trans (Nat.pow_dvd_pow 2 (Nat.le_succ k)) h4
    rw[ratio_whole_l3_eq,eb,decide_eq_true (by omega),tft,ratio_up_val (n+2) d k (by omega) h5',obs,wide_lessN (n+2) (by omega) h5',obs,w64 (by omega) (by omega),tfd]
    by_cases hlt:a<d*2^k
    · rw[if_pos hlt]
      exact ih f a q h1 h2 hlt hq2 hk5 (by omega) (by omega)
    · rw[if_neg hlt,ratio_less_val n (by omega) (by omega),obs,wide_of,obs,one_ofN,ratio_up_val (n+2) 1 k (by omega) (by rw[Nat.one_mul];exact hpk),obs,Nat.one_mul]
      have hqA:q≤A / d:=by rw[←h1];exact Nat.le_add_right _ _
      have hqM:q<340282366920938463463374607431768211456:=Nat.lt_of_le_of_lt (Nat.le_trans hqA (Nat.div_le_self _ _)) hA
      rw[or_ofN hqM hpk,or_pow h4]
      refine ih f (a-d*2^k) (q+2^k) ?_ (by omega) ?_ (Nat.dvd_add hq2 (Nat.dvd_refl _)) hk5 (by omega) (by omega)
      · rw[div_part hd (by omega)];exact h1
      · rw[Nat.pow_succ,←Nat.mul_assoc] at h3;omega
theorem ratio_whole_val (n:Nat) {a d:Nat} (ha:a<340282366920938463463374607431768211456) (hd:0<d) (hdM:d<340282366920938463463374607431768211456):ratio_whole (n+4) (ofN a) (ofN d)=some (ofN (a / d)):=by
  have la:=(bl_spec 128 a ha).2.2
  have ld:=(bl_spec 128 d hdM).2
  have ld1:=(ld.1 hd).1
  rw[ratio_whole_eq,long_val (n+1) ha,obs,long_val (n+1) hdM,obs,w64 (by omega) (by omega)]
  by_cases h:bl 128 d≤bl 128 a
  · have h0:0<a:=by
      rcases Nat.eq_zero_or_pos a with e | e
      · rw[e,bl_zero] at h;omega
      · exact e
    have e:((bl 128 a:Nat):Int)-((bl 128 d:Nat):Int)=((bl 128 a-bl 128 d+1:Nat):Int)-1:=by omega
    rw[e,zero_ofN,whole_l3 n hd ha hdM _ (bl 128 a-bl 128 d+1) loopFuel a 0 (by omega) (Nat.le_refl _) (bl_over ha hdM hd) (Nat.dvd_zero _) (.inr (by rw[Nat.add_sub_cancel];exact bl_up ha hdM (by omega) h0)) (by omega) (by unfold loopFuel;omega),obs,selim_inl]
  · have hlt:=bl_less ha hdM (by omega)
    rw[show loopFuel=(2^70-1)+1 from rfl,ratio_whole_l3_eq,decide_eq_false (by omega),tff,obs,selim_inl,Nat.div_eq_of_lt hlt];rfl
theorem gcd_step (n:Nat) {A B f:Nat} (ha0:0<A) (ha:A<340282366920938463463374607431768211456) (hb0:0<B) (hb:B<340282366920938463463374607431768211456) (s4:Wd) (tw:Int):ratio_Gcd_l5 (n+3) (f+1) (ofN A,ofN B,s4,tw,()) =
    if od B<A then ratio_Gcd_l5 (n+3) f (ofN (od B),ofN (A-od B),s4,tw,()) else ratio_Gcd_l5 (n+3) f (ofN A,ofN (od B-A),s4,tw,()):=by
  have ht:=(od_spec hb0 hb).1
  have hle:od B<340282366920938463463374607431768211456:=Nat.lt_of_le_of_lt (od_le B) hb
  rw[ratio_Gcd_l5_eq,ratio_none_val,obs,tfn,decide_eq_false (by omega),tff,noughts_val (n+1) hb0 hb,obs,ratio_down_val (n+2) B _ ht hb,obs]
  change obind (wide_Less (n+3) (ofN (od B)) (ofN A)) _=_
  rw[wide_lessN (n+2) hle ha,obs,tfd]
  by_cases h:od B<A
  · rw[if_pos h,if_pos h]
    change obind (ratio_less (n+3) (ofN A) (ofN (od B))) _=_
    rw[ratio_less_val n ha (by omega),obs];rfl
  · rw[if_neg h,if_neg h]
    change obind (ratio_less (n+3) (ofN (od B)) (ofN A)) _=_
    rw[ratio_less_val n hle (by omega),obs]
theorem gcd_l5 (n:Nat) (s4:Wd) (tw:Int):∀(k f A B:Nat),0<A→A<340282366920938463463374607431768211456→A % 2=1→B<340282366920938463463374607431768211456→B % 2=0→A*B<2^k→k<f →
    ratio_Gcd_l5 (n+3) f (ofN A,ofN B,s4,tw,())=some (.inl (ofN (Nat.gcd A B),s4,tw,())):=by
  intro k
  induction k with
  | zero =>
    intro f A B h1 h2 h3 h4 h5 h6 hf
    obtain ⟨f,rfl⟩:∃g,f=g+1:=⟨f-1,by omega⟩
    have:B=0:=by
      rcases Nat.eq_zero_or_pos B with e | e
      · exact e
      · have:=Nat.mul_pos h1 e;omega
    subst this
    rw[ratio_Gcd_l5_eq,ratio_none_val,obs,tfn,decide_eq_true rfl,tft,Nat.gcd_zero_right]
  | succ k ih =>
    intro f A B h1 h2 h3 h4 h5 h6 hf
    obtain ⟨f,rfl⟩:∃g,f=g+1:=⟨f-1,by omega⟩
    rcases Nat.eq_zero_or_pos B with e | hB
    · subst e
      rw[ratio_Gcd_l5_eq,ratio_none_val,obs,tfn,decide_eq_true rfl,tft,Nat.gcd_zero_right]
    · have hev:=od_even hB h4 h5
      have hod:=(od_spec hB h4).2.2
      have hpos:=od_pos hB h4
      have hg:=gcd_od h3 hB h4
      have hp:A*od B<2^k:=by
        have:A*(2*od B)≤A*B:=Nat.mul_le_mul_left A hev
        rw[Nat.mul_left_comm] at this
        rw[Nat.pow_succ] at h6;omega
      rw[gcd_step n h1 h2 hB h4]
      by_cases h:od B<A
      · rw[if_pos h,ih f (od B) (A-od B) hpos (by omega) hod (by omega) (by omega) (Nat.lt_of_le_of_lt (by rw[Nat.mul_comm A];exact Nat.mul_le_mul_left _ (Nat.sub_le _ _)) hp) (by omega),gcd_less (by omega),Nat.gcd_comm,hg]
      · rw[if_neg h,ih f A (od B-A) h1 h2 h3 (by omega) (by omega) (Nat.lt_of_le_of_lt (Nat.mul_le_mul_left _ (Nat.sub_le _ _)) hp) (by omega),gcd_less (by omega),hg]
theorem gcd_any (n:Nat) (s4:Wd) (tw:Int) {A B:Nat} (h1:0<A) (h2:A<340282366920938463463374607431768211456) (h3:A % 2=1) (hB:0<B) (h4:B<340282366920938463463374607431768211456):ratio_Gcd_l5 (n+3) loopFuel (ofN A,ofN B,s4,tw,())=some (.inl (ofN (Nat.gcd A B),s4,tw,())):=by
  have hod:=(od_spec hB h4).2.2
  have hpos:=od_pos hB h4
  have hle:=od_le B
  have hg:=gcd_od h3 hB h4
  have hm:∀ {x y:Nat},x<340282366920938463463374607431768211456→y<340282366920938463463374607431768211456→x*y<2^256:=fun hx hy=>Nat.lt_of_lt_of_le (Nat.mul_lt_mul'' hx hy) (by decide)
  rw[show loopFuel=(2^70-1)+1 from rfl,gcd_step n h1 h2 hB h4]
  by_cases h:od B<A
  · rw[if_pos h,gcd_l5 n s4 tw 256 _ (od B) (A-od B) hpos (by omega) hod (by omega) (by omega) (hm (by omega) (by omega)) (by decide),gcd_less (by omega),Nat.gcd_comm,hg]
  · rw[if_neg h,gcd_l5 n s4 tw 256 _ A (od B-A) h1 h2 h3 (by omega) (by omega) (hm (by omega) (by omega)) (by decide),gcd_less (by omega),hg]
theorem ratio_gcd (n:Nat) {x y:Nat} (hx:x<340282366920938463463374607431768211456) (hy:y<340282366920938463463374607431768211456):ratio_Gcd (n+4) (ofN x) (ofN y)=some (ofN (Nat.gcd x y)):=by
  rw[ratio_Gcd_eq,ratio_none_val,obs,or_ofN hx hy]
  by_cases h0:x=0
  · subst h0
    rw[decide_eq_true rfl,tft,Nat.gcd_zero_left,Nat.zero_or]
  rw[decide_eq_false h0,tff,ratio_none_val,obs]
  by_cases h1:y=0
  · subst h1
    rw[decide_eq_true rfl,tft,Nat.gcd_zero_right,Nat.or_zero]
  have hx0:0<x:=by omega
  have hy0:0<y:=by omega
  obtain ⟨a1,a2,a3⟩:=od_spec hx0 hx
  obtain ⟨b1,b2,b3⟩:=od_spec hy0 hy
  have hle:od x<340282366920938463463374607431768211456:=Nat.lt_of_le_of_lt (od_le x) hx
  rw[decide_eq_false h1,tff,noughts_val (n+1) hx0 hx,obs,noughts_val (n+1) hy0 hy,obs,obs,ratio_down_val (n+2) x _ a1 hx,obs]
  change obind (ratio_Gcd_l5 (n+3) loopFuel (ofN (od x),ofN y,_,_,())) _=_
  rw[gcd_any n _ _ (od_pos hx0 hx) hle a3 hy0 hy,obs,selim_inl]
  have e:(if ((tz 128 y:Nat):Int)<((tz 128 x:Nat):Int) then ((tz 128 y:Nat):Int) else ((tz 128 x:Nat):Int))=((min (tz 128 x) (tz 128 y):Nat):Int):=by
    split<;>omega
  have hg:=gcd_whole hx0 hx hy0 hy
  have hlt:Nat.gcd x y<340282366920938463463374607431768211456:=Nat.lt_of_le_of_lt (Nat.gcd_le_left y hx0) hx
  simp only
  rw[e,ratio_up_val (n+2) _ _ (by omega) (by rw[←hg];exact hlt),obs,←hg]
def bys (x:Nat):List Int:=(List.range 16).map fun j=>((byt x j:Nat):Int)
theorem bys_len (x:Nat):(bys x).length=16:=by simp[bys]
theorem bys_at (x:Nat) {j:Nat} (h:j<16):(bys x)[j]? = some ((byt x j:Nat):Int):=by
  unfold bys;rw[List.getElem?_map,List.getElem?_range h];rfl
theorem bys_eq (x:Nat):bys x=[((x % 256:Nat):Int),((x / 256 % 256:Nat):Int),((x / 65536 % 256:Nat):Int),((x / 16777216 % 256:Nat):Int),((x / 4294967296 % 256:Nat):Int),((x / 1099511627776 % 256:Nat):Int),((x / 281474976710656 % 256:Nat):Int),((x / 72057594037927936 % 256:Nat):Int),
    ((x / 18446744073709551616 % 256:Nat):Int),((x / 4722366482869645213696 % 256:Nat):Int),((x / 1208925819614629174706176 % 256:Nat):Int),((x / 309485009821345068724781056 % 256:Nat):Int),((x / 79228162514264337593543950336 % 256:Nat):Int),((x / 20282409603651670423947251286016 % 256:Nat):Int),((x / 5192296858534827628530496329220096 % 256:Nat):Int),((x / 1329227995784915872903807060280344576 % 256:Nat):Int)]:=by
  unfold bys byt
  simp[List.range,List.range.loop]
abbrev l16 (r:B16):List Int:=[r.1,r.2.1,r.2.2.1,r.2.2.2.1,r.2.2.2.2.1,r.2.2.2.2.2.1,r.2.2.2.2.2.2.1,r.2.2.2.2.2.2.2.1,r.2.2.2.2.2.2.2.2.1,r.2.2.2.2.2.2.2.2.2.1,r.2.2.2.2.2.2.2.2.2.2.1,r.2.2.2.2.2.2.2.2.2.2.2.1,r.2.2.2.2.2.2.2.2.2.2.2.2.1,r.2.2.2.2.2.2.2.2.2.2.2.2.2.1,r.2.2.2.2.2.2.2.2.2.2.2.2.2.2.1,r.2.2.2.2.2.2.2.2.2.2.2.2.2.2.2]
theorem bys_list (x:Nat):bys x=[((byt x 0:Nat):Int),((byt x 1:Nat):Int),((byt x 2:Nat):Int),((byt x 3:Nat):Int),((byt x 4:Nat):Int),((byt x 5:Nat):Int),((byt x 6:Nat):Int),((byt x 7:Nat):Int),((byt x 8:Nat):Int),((byt x 9:Nat):Int),((byt x 10:Nat):Int),((byt x 11:Nat):Int),((byt x 12:Nat):Int),((byt x 13:Nat):Int),((byt x 14:Nat):Int),((byt x 15:Nat):Int)]:=by
  unfold bys
  simp[List.range,List.range.loop]
theorem digits8 {v x0 x1 x2 x3 x4 x5 x6 x7:Int} (b:Byt x0∧Byt x1∧Byt x2∧Byt x3∧Byt x4∧Byt x5∧Byt x6∧Byt x7) (h:v=x0+x1*256+x2*65536+x3*16777216+x4*4294967296+x5*1099511627776+x6*281474976710656+x7*72057594037927936) :
    x0=v % 256∧x1=v / 256 % 256∧x2=v / 65536 % 256∧x3=v / 16777216 % 256∧x4=v / 4294967296 % 256∧x5=v / 1099511627776 % 256∧x6=v / 281474976710656 % 256∧x7=v / 72057594037927936 % 256:=by
  simp only[Byt] at b
  obtain ⟨⟨_,_⟩,⟨_,_⟩,⟨_,_⟩,⟨_,_⟩,⟨_,_⟩,⟨_,_⟩,⟨_,_⟩,⟨_,_⟩⟩:=b
  refine ⟨?_,?_,?_,?_,?_,?_,?_,?_⟩<;>omega
theorem r01_bytesN (n:Nat) {x:Nat} (h:x<340282366920938463463374607431768211456):∃r:B16,r01_Bytes (n+1) (ofN x)=some r∧l16 r=bys x:=by
  obtain ⟨x0,x1,x2,x3,x4,x5,x6,x7,x8,x9,x10,x11,x12,x13,x14,x15,hr,⟨b0,b1,b2,b3,b4,b5,b6,b7,b8,b9,b10,b11,b12,b13,b14,b15⟩,hlo,hhi⟩:=r01_bytes n (ofN_ok h)
  refine ⟨_,hr,?_⟩
  obtain ⟨c0,c1,c2,c3,c4,c5,c6,c7⟩:=digits8 ⟨b0,b1,b2,b3,b4,b5,b6,b7⟩ hlo
  obtain ⟨d0,d1,d2,d3,d4,d5,d6,d7⟩:=digits8 ⟨b8,b9,b10,b11,b12,b13,b14,b15⟩ hhi
  have elo:(ofN x).2=((x % 18446744073709551616:Nat):Int):=rfl
  have ehi:(ofN x).1=((x / 18446744073709551616:Nat):Int):=rfl
  rw[elo] at c0 c1 c2 c3 c4 c5 c6 c7
  rw[ehi] at d0 d1 d2 d3 d4 d5 d6 d7
  rw[bys_eq]
  simp only[l16]
  clear hr hlo hhi b0 b1 b2 b3 b4 b5 b6 b7 b8 b9 b10 b11 b12 b13 b14 b15
  subst c0 c1 c2 c3 c4 c5 c6 c7 d0 d1 d2 d3 d4 d5 d6 d7
  simp only[List.cons.injEq,and_true]
  refine ⟨?_,?_,?_,?_,?_,?_,?_,?_,?_,?_,?_,?_,?_,?_,?_,?_⟩
  all_goals omega
theorem r01_ofN (n:Nat) {x:Nat} (h:x<340282366920938463463374607431768211456):r01_Of (n+1) (((byt x 0:Nat):Int),((byt x 1:Nat):Int),((byt x 2:Nat):Int),((byt x 3:Nat):Int),((byt x 4:Nat):Int),((byt x 5:Nat):Int),((byt x 6:Nat):Int),((byt x 7:Nat):Int),((byt x 8:Nat):Int),((byt x 9:Nat):Int),((byt x 10:Nat):Int),((byt x 11:Nat):Int),((byt x 12:Nat):Int),((byt x 13:Nat):Int),((byt x 14:Nat):Int),((byt x 15:Nat):Int))=some (ofN x):=by
  obtain ⟨r,hr,hl⟩:=r01_bytesN n h
  obtain ⟨x0,x1,x2,x3,x4,x5,x6,x7,x8,x9,x10,x11,x12,x13,x14,x15,hr',hb,hlo,hhi⟩:=r01_bytes n (ofN_ok h)
  have hr':=Option.some.inj (hr.symm.trans hr')
  subst hr'
  rw[bys_list] at hl
  simp only[l16,List.cons.injEq,and_true] at hl
  obtain ⟨rfl,rfl,rfl,rfl,rfl,rfl,rfl,rfl,rfl,rfl,rfl,rfl,rfl,rfl,rfl,rfl⟩:=hl
  obtain ⟨b0,b1,b2,b3,b4,b5,b6,b7,b8,b9,b10,b11,b12,b13,b14,b15⟩:=hb
  rw[r01_of n b0 b1 b2 b3 b4 b5 b6 b7 b8 b9 b10 b11 b12 b13 b14 b15,←hlo,←hhi]
theorem r01_ofL (n:Nat) {x:Nat} (h:x<340282366920938463463374607431768211456) {R:Type} (k:Wd→Option R) {l:List Int} (hl:l=bys x) :
    (obind (l[0]?) fun r0=>obind (l[1]?) fun r1=>obind (l[2]?) fun r2=>obind (l[3]?) fun r3=>obind (l[4]?) fun r4=>obind (l[5]?) fun r5=>obind (l[6]?) fun r6=>obind (l[7]?) fun r7=>obind (l[8]?) fun r8=>obind (l[9]?) fun r9=>obind (l[10]?) fun r10=>obind (l[11]?) fun r11=>obind (l[12]?) fun r12=>obind (l[13]?) fun r13=>obind (l[14]?) fun r14=>obind (l[15]?) fun r15=>obind (r01_Of (n+1) (r0,(r1,(r2,(r3,(r4,(r5,(r6,(r7,(r8,(r9,(r10,(r11,(r12,(r13,(r14,r15)))))))))))))))) k)=k (ofN x):=by
  subst hl
  have e:∀j:Nat,j<16→(bys x)[j]? = some ((byt x j:Nat):Int):=fun j hj=>bys_at x hj
  rw[e 0 (by decide),e 1 (by decide),e 2 (by decide),e 3 (by decide),e 4 (by decide),e 5 (by decide),e 6 (by decide),e 7 (by decide),e 8 (by decide),e 9 (by decide),e 10 (by decide),e 11 (by decide),e 12 (by decide),e 13 (by decide),e 14 (by decide),e 15 (by decide)]
  simp only[obs,r01_ofN n h]
theorem r01_addN (n:Nat) {x y:Nat} (hx:x<340282366920938463463374607431768211456) (hy:y<340282366920938463463374607431768211456):r01_Add (n+2) (ofN x) (ofN y)=some (if x+y<340282366920938463463374607431768211456 then (ofN (x+y),0) else ((0,0),1)):=by
  rw[r01_add n (ofN_ok hx) (ofN_ok hy)]
  unfold addW
  rw[wv_ofN,wv_ofN]
  have e:(x:Int)+y=((x+y:Nat):Int):=by omega
  rw[e,mkW_nat]
  by_cases h:x+y<340282366920938463463374607431768211456
  · rw[if_pos h,if_pos (by omega)]
  · rw[if_neg h,if_neg (by omega)]
theorem r01_lessN (n:Nat) {x y:Nat} (hx:x<340282366920938463463374607431768211456) (hy:y<340282366920938463463374607431768211456):r01_Less (n+2) (ofN x) (ofN y)=some (decide (x<y)):=by
  rw[r01_less n (ofN_ok hx) (ofN_ok hy),wv_ofN,wv_ofN]
  congr 1
  exact decide_eq_decide.2 (by omega)
def subL (A B i:Nat):List Int:=(List.range 16).map fun j=>(((if j<i then byt (A-B) j else byt A j):Nat):Int)
def owe (A B i:Nat):Nat:=if A % 256^i<B % 256^i then 1 else 0
theorem subL_len (A B i:Nat):(subL A B i).length=16:=by simp[subL]
theorem subL_at (A B i:Nat) {j:Nat} (h:j<16):(subL A B i)[j]? = some (((if j<i then byt (A-B) j else byt A j):Nat):Int):=by
  unfold subL;rw[List.getElem?_map,List.getElem?_range h];rfl
theorem subL_set (A B:Nat) {i:Nat} (h:i<16):(subL A B i).set i ((byt (A-B) i:Nat):Int)=subL A B (i+1):=by
  apply List.ext_getElem?
  intro j
  rw[List.getElem?_set,subL_len]
  by_cases hj:j<16
  · rw[subL_at _ _ _ hj,subL_at _ _ _ hj]
    by_cases e:i=j
    · subst e;rw[if_pos rfl,if_pos h,if_pos (by omega)]
    · rw[if_neg e]
      by_cases hlt:j<i
      · rw[if_pos hlt,if_pos (by omega)]
      · rw[if_neg hlt,if_neg (by omega)]
  · rw[if_neg (by omega),List.getElem?_eq_none (by rw[subL_len];omega),List.getElem?_eq_none (by rw[subL_len];omega)]
theorem owe_step {A B:Nat} (hle:B≤A) (i:Nat) :
    (byt A i<byt B i+owe A B i→owe A B (i+1)=1∧byt (A-B) i+byt B i+owe A B i=byt A i+256) ∧
    (byt B i+owe A B i≤byt A i→owe A B (i+1)=0∧byt (A-B) i+byt B i+owe A B i=byt A i):=by
  have hp:0<256^i:=Nat.pow_pos (by decide)
  have ea:=Nat.div_add_mod A (256^i)
  have eb:=Nat.div_add_mod B (256^i)
  have la:=Nat.mod_lt A hp
  have lb:=Nat.mod_lt B hp
  have ea2:A % 256^(i+1)=256^i*(A / 256^i % 256)+A % 256^i:=by rw[Nat.pow_succ,Nat.mod_mul];omega
  have eb2:B % 256^(i+1)=256^i*(B / 256^i % 256)+B % 256^i:=by rw[Nat.pow_succ,Nat.mod_mul];omega
  unfold owe byt
  rw[ea2,eb2]
  generalize hP:256^i=P at *
  generalize hA':A / P=A' at *
  generalize hB':B / P=B' at *
  generalize ha:A % P=a at *
  generalize hb:B % P=b at *
  have key:(A-B) / P+B'+(if a<b then 1 else 0)=A':=by
    by_cases hlt:a<b
    · rw[if_pos hlt]
      have hAB:B'+1≤A':=by
        rcases Nat.lt_or_ge B' A' with q | q
        · exact q
        · have:=Nat.mul_le_mul_left P q;omega
      obtain ⟨c,hc⟩:∃c,A'=B'+1+c:=⟨A'-(B'+1),by omega⟩
      have e1:P*A'=P*B'+P+P*c:=by rw[hc,Nat.mul_add,Nat.mul_add,Nat.mul_one]
      have e2:A-B=P*c+(P+a-b):=by omega
      rw[e2,Nat.mul_add_div hp,Nat.div_eq_of_lt (by omega)]
      omega
    · rw[if_neg hlt]
      have hAB:B'≤A':=by
        rcases Nat.lt_or_ge A' B' with q | q
        · have:=Nat.mul_le_mul_left P q
          rw[Nat.mul_succ] at this
          omega
        · exact q
      obtain ⟨c,hc⟩:∃c,A'=B'+c:=⟨A'-B',by omega⟩
      have e1:P*A'=P*B'+P*c:=by rw[hc,Nat.mul_add]
      have e2:A-B=P*c+(a-b):=by omega
      rw[e2,Nat.mul_add_div hp,Nat.div_eq_of_lt (by omega)]
      omega
  generalize (A-B) / P=D at *
  have cmp:(P*(A' % 256)+a<P*(B' % 256)+b)↔(A' % 256<B' % 256∨A' % 256=B' % 256∧a<b):=by
    rcases Nat.lt_trichotomy (A' % 256) (B' % 256) with q | q | q
    · have:=Nat.mul_le_mul_left P q
      rw[Nat.mul_succ] at this
      constructor
      · intro _;exact .inl q
      · intro _;omega
    · rw[q];constructor
      · intro h;exact .inr ⟨rfl,by omega⟩
      · rintro (h | ⟨_,h⟩)<;>omega
    · have:=Nat.mul_le_mul_left P q
      rw[Nat.mul_succ] at this
      constructor
      · intro h;omega
      · rintro (h | ⟨h,_⟩)<;>omega
  by_cases hab:a<b
  · simp only[if_pos hab] at key ⊢
    constructor
    · intro h
      rw[if_pos (cmp.2 (by omega))]
      exact ⟨rfl,by omega⟩
    · intro h
      rw[if_neg (fun q=>by have:=cmp.1 q;omega)]
      exact ⟨rfl,by omega⟩
  · simp only[if_neg hab] at key ⊢
    constructor
    · intro h
      rw[if_pos (cmp.2 (by omega))]
      exact ⟨rfl,by omega⟩
    · intro h
      rw[if_neg (fun q=>by have:=cmp.1 q;omega)]
      exact ⟨rfl,by omega⟩
theorem r01_sub_l6 (n:Nat) {A B:Nat} (hle:B≤A) (s4:Wd):∀(k f i:Nat),i+k=16→k<f →
    r01_Sub_l6 n f (s4,subL A B i,bys B,((owe A B i:Nat):Int),(i:Int),())=some (.inl (s4,bys (A-B),())):=by
  intro k
  induction k with
  | zero =>
    intro f i hi hf
    obtain ⟨f,rfl⟩:∃g,f=g+1:=⟨f-1,by omega⟩
    have:i=16:=by omega
    subst this
    rw[r01_Sub_l6_eq,decide_eq_false (by decide),tff]
    congr 3
  | succ k ih =>
    intro f i hi hf
    obtain ⟨f,rfl⟩:∃g,f=g+1:=⟨f-1,by omega⟩
    have hlt:i<16:=by omega
    have g1:=byt_lt A i
    have g2:=byt_lt B i
    have g3:=byt_lt (A-B) i
    have g4:owe A B i≤1:=by unfold owe;split<;>omega
    obtain ⟨s1,s2⟩:=owe_step hle i
    have next:=ih f (i+1) (by omega) (by omega)
    rw[r01_Sub_l6_eq,subL_len,bys_len,Int.toNat_natCast,subL_at _ _ _ hlt,bys_at _ hlt,if_neg (Nat.lt_irrefl i)]
    simp only[decide_eq_true (show (i:Int)<16 by omega),decide_eq_true (show (0:Int)≤(i:Int) by omega),decide_eq_true (show (i:Int)<((16:Nat):Int) by omega),Bool.and_self,tft,obs]
    rw[w64 (x:=((byt A i:Nat):Int)-((byt B i:Nat):Int)) (by omega) (by omega),w64 (x:=((byt A i:Nat):Int)-((byt B i:Nat):Int)-((owe A B i:Nat):Int)) (by omega) (by omega),w64 (x:=(i:Int)+1) (by omega) (by omega),tfd]
    by_cases h:byt A i<byt B i+owe A B i
    · obtain ⟨t1,t2⟩:=s1 h
      rw[t1] at next
      rw[if_pos (by omega),w64 (by omega) (by omega),show ((byt A i:Nat):Int)-((byt B i:Nat):Int)-((owe A B i:Nat):Int)+256=((byt (A-B) i:Nat):Int) by omega,subL_set _ _ hlt]
      exact next
    · obtain ⟨t1,t2⟩:=s2 (by omega)
      rw[t1] at next
      rw[if_neg (by omega),show ((byt A i:Nat):Int)-((byt B i:Nat):Int)-((owe A B i:Nat):Int)=((byt (A-B) i:Nat):Int) by omega,subL_set _ _ hlt]
      exact next
theorem r01_subN (n:Nat) {A B:Nat} (hA:A<340282366920938463463374607431768211456) (hle:B≤A):r01_Sub (n+3) (ofN A) (ofN B)=some (ofN (A-B),0):=by
  obtain ⟨ra,ha,hla⟩:=r01_bytesN (n+1) hA
  obtain ⟨rb,hb,hlb⟩:=r01_bytesN (n+1) (Nat.lt_of_le_of_lt hle hA)
  rw[r01_Sub_eq,r01_lessN n hA (Nat.lt_of_le_of_lt hle hA),obs,decide_eq_false (by omega),tff,ha,obs,hb,obs]
  rw[show (decide (16=((((((((((((((((1+1)+1)+1)+1)+1)+1)+1)+1)+1)+1)+1)+1)+1)+1)+1) / 1)))=true from rfl,tft,tft]
  have e0:subL A B 0=bys A:=by unfold subL bys;apply List.map_congr_left;intro j _;rw[if_neg (Nat.not_lt_zero j)]
  have:=r01_sub_l6 (n+2) hle (0,0) 16 loopFuel 0 rfl (by decide)
  rw[e0,show owe A B 0=0 by unfold owe;simp[Nat.mod_one],←hla,←hlb] at this
  change obind (r01_Sub_l6 (n+2) loopFuel ((0,0),l16 ra,l16 rb,((0:Nat):Int),((0:Nat):Int),())) _=_
  rw[this,obs,selim_inl]
  exact r01_ofL (n+1) (Nat.lt_of_le_of_lt (Nat.sub_le _ _) hA) (fun r=>some (r,0)) rfl
theorem lo_ofN {b:Nat} (h:b<18446744073709551616):(((0:Int),(b:Int)):Wd)=ofN b:=by
  unfold ofN
  rw[Nat.div_eq_of_lt h,Nat.mod_eq_of_lt h];rfl
theorem shr64 (v k:Nat) (hk:k≤64):shrI .i64 (v:Int) (k:Int)=((v / 2^k:Nat):Int):=shrN v k hk
theorem and1 {v:Nat} (h:v<256):andI .i64 (v:Int) (1:Int)=((v % 2:Nat):Int):=by
  unfold andI
  have e2:(BitVec.ofInt IntKind.i64.bits (v:Int) &&& BitVec.ofInt IntKind.i64.bits (1:Int)).toNat=v % 2:=by
    show (BitVec.ofInt 64 (v:Int) &&& BitVec.ofInt 64 ((1:Nat):Int)).toNat=_
    rw[BitVec.toNat_and,BitVec.ofInt_natCast,BitVec.ofInt_natCast,BitVec.toNat_ofNat,BitVec.toNat_ofNat,Nat.mod_eq_of_lt (by omega),Nat.mod_eq_of_lt (by omega)]
    exact Nat.and_one_is_mod v
  rw[e2]
  exact w64 (by omega) (by omega)
theorem orbit {v j:Nat} (h:v<256) (hj:j<8):orI .i64 (v:Int) (shlI .i64 (1:Int) (j:Int))=((v ||| 2^j:Nat):Int):=by
  have hp:2^j<256:=Nat.lt_of_lt_of_le (Nat.pow_lt_pow_right (a:=2) (n:=8) (by decide) hj) (by decide)
  have e1:shlI .i64 (1:Int) (j:Int)=((2^j:Nat):Int):=by
    show IntKind.wrap .i64 ((1:Int)*2^(min (j:Int).toNat 64))=_
    rw[show min (j:Int).toNat 64=j by omega,Int.one_mul]
    have:(2:Int)^j=((2^j:Nat):Int):=by simp
    rw[this]
    generalize 2^j=p at hp
    exact w64 (by omega) (by omega)
  rw[e1]
  unfold orI
  have e2:(BitVec.ofInt IntKind.i64.bits (v:Int) ||| BitVec.ofInt IntKind.i64.bits ((2^j:Nat):Int)).toNat=v ||| 2^j:=by
    show (BitVec.ofInt 64 (v:Int) ||| BitVec.ofInt 64 ((2^j:Nat):Int)).toNat=_
    rw[BitVec.toNat_or,BitVec.ofInt_natCast,BitVec.ofInt_natCast,BitVec.toNat_ofNat,BitVec.toNat_ofNat,Nat.mod_eq_of_lt (by omega),Nat.mod_eq_of_lt (by omega)]
  rw[e2]
  have:v ||| 2^j<2^8:=Nat.or_lt_two_pow (by omega) (by omega)
  exact w64 (by omega) (by omega)
theorem bys_set {v i:Nat} (hi:i<128) (h:2^(i+1) ∣ v):(bys v).set (i / 8) ((byt v (i / 8) ||| 2^(i % 8):Nat):Int)=bys (v+2^i):=by
  apply List.ext_getElem?
  intro j
  rw[List.getElem?_set,bys_len]
  by_cases hj:j<16
  · rw[bys_at _ hj,bys_at _ hj,byt_or h]
    by_cases e:i / 8=j
    · rw[if_pos e,if_pos e,if_pos (by omega),e]
    · rw[if_neg e,if_neg e]
  · rw[if_neg (by omega),List.getElem?_eq_none (by rw[bys_len];omega),List.getElem?_eq_none (by rw[bys_len];omega)]
theorem bit_at (A:Nat) {k:Nat}:IntKind.wrap .u64 (andI .i64 (shrI .i64 ((byt A (k / 8):Nat):Int) ((k % 8:Nat):Int)) (1:Int))=((A / 2^k % 2:Nat):Int):=by
  have hb:=byt_lt A (k / 8)
  rw[shr64 _ _ (by omega),and1 (Nat.lt_of_le_of_lt (Nat.div_le_self _ _) hb),bit_byt,wu64 (by omega) (by omega)]
theorem r02_whole_l7 (n:Nat) {A D:Nat} (hA:A<340282366920938463463374607431768211456) (hD:D<340282366920938463463374607431768211456) (hD0:0<D) (s4 s5:Wd):∀(k f q r:Nat),k≤128→A / 2^k=D*q+r→r<D→k<f →
    r02_Whole_l7 (n+3) f (ofN D,s4,s5,bys (q*2^k),ofN r,bys A,(k:Int)-1,())=some (.inl (s4,s5,bys (A / D),ofN (A % D),())):=by
  intro k
  induction k with
  | zero =>
    intro f q r hk h hr hf
    obtain ⟨f,rfl⟩:∃g,f=g+1:=⟨f-1,by omega⟩
    rw[Nat.pow_zero,Nat.div_one] at h
    obtain ⟨e1,e2⟩:=(Nat.div_mod_unique (a:=A) (c:=r) (d:=q) hD0).2 ⟨by omega,hr⟩
    rw[r02_Whole_l7_eq,decide_eq_false (by omega),tff,e1,e2,Nat.pow_zero,Nat.mul_one]
  | succ k ih =>
    intro f q r hk h hr hf
    obtain ⟨f,rfl⟩:∃g,f=g+1:=⟨f-1,by omega⟩
    obtain ⟨d1,d2⟩:=div_step (L:=0) hD0 h hr
    have e1:IntKind.wrap .i64 (Int.tdiv (k:Int) 8)=((k / 8:Nat):Int):=by rw[tdiv_nn (by omega),w64 (by omega) (by omega)];omega
    have e2:Int.tmod (k:Int) 8=((k % 8:Nat):Int):=by rw[tmod_nn (by omega)];omega
    have eb:((k+1:Nat):Int)-1=(k:Int):=by omega
    have hk8:k / 8<16:=by omega
    have hbit:A / 2^k % 2<2:=Nat.mod_lt _ (by decide)
    have hdvd:2^(k+1) ∣ q*2^(k+1):=Nat.dvd_mul_left _ _
    have eq1:(2*q+1)*2^k=q*2^(k+1)+2^k:=by rw[Nat.pow_succ,Nat.add_mul,Nat.one_mul,Nat.mul_comm 2 q,Nat.mul_assoc,Nat.mul_comm 2 (2^k)]
    have eq0:(2*q)*2^k=q*2^(k+1):=by rw[Nat.pow_succ,Nat.mul_comm 2 q,Nat.mul_assoc,Nat.mul_comm 2 (2^k)]
    have hset:=bys_set (v:=q*2^(k+1)) (i:=k) (by omega) hdvd
    have hob:=orbit (v:=byt (q*2^(k+1)) (k / 8)) (j:=k % 8) (byt_lt _ _) (by omega)
    have c1:decide ((0:Int)≤((k / 8:Nat):Int))=true:=decide_eq_true (by omega)
    have c2:decide (((k / 8:Nat):Int)<(16:Int))=true:=decide_eq_true (by omega)
    have c3:decide (((k / 8:Nat):Int)<((16:Nat):Int))=true:=decide_eq_true (by omega)
    have c4:decide (((k % 8:Nat):Int)<(0:Int))=false:=decide_eq_false (by omega)
    rw[r02_Whole_l7_eq,eb,decide_eq_true (by omega),tft,r01_addN (n+1) (by omega) (by omega),obs]
    simp only[e1,e2,bys_len,c1,c2,c3,c4,Bool.and_self,tft,tff,Int.toNat_natCast,bys_at _ hk8,obs,bit_at,hob,hset]
    rw[w64 (x:=(k:Int)-1) (by omega) (by omega),lo_ofN (b:=A / 2^k % 2) (by omega)]
    generalize hb:A / 2^k % 2=b at *
    by_cases hov:r+r<340282366920938463463374607431768211456
    · rw[if_pos hov]
      simp only[decide_true,Bool.not_true,tff]
      rw[r01_addN (n+1) hov (by omega),obs,if_pos (by omega)]
      simp only
      rw[r01_lessN (n+1) (by omega) hD,obs,tfn,tfd]
      by_cases hlt:r+r+b<D
      · rw[if_pos hlt]
        have:=ih f (2*q) (r+r+b) (by omega) (by rw[d2 (by omega)];omega) hlt (by omega)
        rw[eq0] at this
        exact this
      · obtain ⟨t1,t2⟩:=d1 (by omega)
        rw[if_neg hlt,r01_subN n (by omega) (by omega),obs]
        have:=ih f (2*q+1) (r+r+b-D) (by omega) (by rw[t1];omega) (by omega) (by omega)
        rw[eq1] at this
        exact this
    · rw[if_neg hov]
      simp only[show (decide ((1:Int)=0))=false from rfl,Bool.not_false,tft]
      obtain ⟨t1,t2⟩:=d1 (by omega)
      rw[r01_subN n hD (by omega),obs]
      simp only
      rw[r01_subN n (by omega) (by omega),obs]
      simp only
      rw[r01_addN (n+1) (by omega) (by omega),obs,if_pos (by omega)]
      simp only
      have:=ih f (2*q+1) (r-(D-r)+b) (by omega) (by rw[t1];omega) (by omega) (by omega)
      rw[eq1] at this
      exact this
theorem r02_whole (n:Nat) {A D:Nat} (hA:A<340282366920938463463374607431768211456) (hD:D<340282366920938463463374607431768211456):r02_Whole (n+4) (ofN A) (ofN D)=some (if D=0 then (ofN 0,ofN A) else (ofN (A / D),ofN (A % D))):=by
  rw[r02_Whole_eq,ofN_zero,tfd]
  by_cases h0:D=0
  · rw[if_pos h0,if_pos h0];rfl
  · obtain ⟨ra,ha,hla⟩:=r01_bytesN (n+2) hA
    rw[if_neg h0,if_neg h0,ha,obs]
    rw[show (decide (16=((((((((((((((((1+1)+1)+1)+1)+1)+1)+1)+1)+1)+1)+1)+1)+1)+1)+1) / 1)))=true from rfl,tft]
    have:=r02_whole_l7 n hA hD (by omega) (0,0) (0,0) 128 loopFuel 0 0 (Nat.le_refl _) (by rw[Nat.mul_zero];exact Nat.div_eq_of_lt hA) (by omega) (by unfold loopFuel;omega)
    rw[Nat.zero_mul,show bys 0=List.replicate 16 (0:Int) from rfl,←hla,show (((128:Nat):Int)-1)=127 from rfl,←zero_ofN] at this
    change obind (r02_Whole_l7 (n+3) loopFuel (ofN D,(0,0),(0,0),List.replicate 16 (0:Int),(0,0),l16 ra,127,())) _=_
    rw[this,obs,selim_inl]
    exact r01_ofL (n+2) (Nat.lt_of_le_of_lt (Nat.div_le_self _ _) hA) (fun r=>some (r,ofN (A % D))) rfl
def redV (x y:Nat):(Wd×Wd)×Int:=if y=0 then (((0,0),(0,0)),1) else ((ofN (x / Nat.gcd x y),ofN (y / Nat.gcd x y)),0)
theorem ratio_reduce (n:Nat) {x y:Nat} (hx:x<340282366920938463463374607431768211456) (hy:y<340282366920938463463374607431768211456):ratio_Reduce (n+5) (ofN x) (ofN y)=some (redV x y):=by
  rw[ratio_Reduce_eq,ratio_none_val,obs,tfd]
  unfold redV
  by_cases h:y=0
  · rw[if_pos h,if_pos h]
  · have hg:0<Nat.gcd x y:=Nat.gcd_pos_of_pos_right x (by omega)
    have hl:Nat.gcd x y<340282366920938463463374607431768211456:=Nat.lt_of_le_of_lt (Nat.gcd_le_right x (by omega)) hy
    rw[if_neg h,if_neg h,ratio_gcd n hx hy,obs,ratio_whole_val n hx hg hl,obs,ratio_whole_val n hy hg hl,obs]
def rateV (a:Wd) (ms:Int):(Wd×Wd)×Int :=
  if ms=0 then (((0,0),(0,0)),12) else if wv a*1000<340282366920938463463374607431768211456 then redV (wv a*1000).toNat ms.toNat else (((0,0),(0,0)),1)
theorem rate_parts {a:Wd} (ha:WdOk a) {ms:Int} (hm:0≤ms∧ms≤18446744073709551615) (h:wv a*1000<340282366920938463463374607431768211456):mkW (wv a*1000)=ofN (wv a*1000).toNat∧(wv a*1000).toNat<340282366920938463463374607431768211456∧(((0:Int),ms):Wd)=ofN ms.toNat∧ms.toNat<340282366920938463463374607431768211456:=by
  obtain ⟨h1,h2⟩:=wv_range ha
  have e:wv a*1000=(((wv a*1000).toNat:Nat):Int):=by omega
  refine ⟨?_,by omega,?_,by omega⟩
  · conv=>lhs;rw[e]
    exact mkW_nat _
  · rw[←lo_ofN (by omega)]
    congr 1;omega
theorem ratio_rate (n:Nat) {a:Wd} (ha:WdOk a) {ms:Int} (hm:0≤ms∧ms≤18446744073709551615):ratio_Rate (n+6) a ms=some (rateV a ms):=by
  rw[ratio_Rate_eq,tfd]
  unfold rateV
  by_cases h0:ms=0
  · rw[if_pos h0,if_pos h0]
  rw[if_neg h0,if_neg h0,wide_times (n+3) ha 1000 (by omega),obs]
  unfold timesW
  by_cases h:wv a*1000<340282366920938463463374607431768211456
  · obtain ⟨p1,p2,p3,p4⟩:=rate_parts ha hm h
    rw[if_pos h,if_pos h]
    simp only[decide_true,Bool.not_true,tff]
    rw[wide_of,obs,p1,p3,ratio_reduce n p2 p4,obs]
  · rw[if_neg h,if_neg h];rfl
section
variable {del:Ev×Unit→Option Bool} {p:Ev→Bool} {L:List Ev} (hd:∀x∈L,del (x,())=some (p x))
include hd
end
def WidP (w:Int):Prop:=1≤w∧w≤1099511627776
instance (w:Int):Decidable (WidP w):=by unfold WidP;infer_instance
def RngP (a b:Int):Prop:=0≤a∧b≤35184372088832∧a<b
instance (a b:Int):Decidable (RngP a b):=by unfold RngP;infer_instance
def spanV (a b w:Int):Int×(Int×Int):=if WidP w∧RngP a b then (if a % w=0∧b % w=0 then (a / w,(b / w,0)) else (0,(0,10))) else (0,(0,1))
theorem span_tail {w:Int} (a b:Int) (hw:WidP w) :
    (tif (decide (a<(0:Int))) (some ((0:Int),((0:Int),(1:Int)))) (
    tif (decide ((35184372088832:Int)<b)) (some ((0:Int),((0:Int),(1:Int)))) (
    tif (decide (b≤a)) (some ((0:Int),((0:Int),(1:Int)))) (
    tif (decide (w=(0:Int))) none (
    tif (!(decide ((Int.tmod a w)=(0:Int)))) (some ((0:Int),((0:Int),(10:Int)))) (
    tif (decide (w=(0:Int))) none (
    tif (!(decide ((Int.tmod b w)=(0:Int)))) (some ((0:Int),((0:Int),(10:Int)))) (
    tif (decide (w=(0:Int))) none (
    tif (decide (w=(0:Int))) none (
    some ((IntKind.wrap .i64 (Int.tdiv a w)),((IntKind.wrap .i64 (Int.tdiv b w)),(0:Int)))))))))))))=some (spanV a b w):=by
  obtain ⟨w1,w2⟩:=hw
  unfold spanV
  simp only[tfd,tfn]
  by_cases h:RngP a b
  · obtain ⟨h1,h2,h3⟩:=h
    have qa:0≤a / w∧a / w≤a:=⟨Int.ediv_nonneg h1 (by omega),Int.ediv_le_self _ h1⟩
    have qb:0≤b / w∧b / w≤b:=⟨Int.ediv_nonneg (by omega) (by omega),Int.ediv_le_self _ (by omega)⟩
    rw[if_neg (by omega),if_neg (by omega),if_neg (by omega),if_neg (by omega),if_pos (show WidP w∧RngP a b from ⟨⟨w1,w2⟩,h1,h2,h3⟩),tmod_nn h1,tmod_nn (show 0≤b by omega),tdiv_nn h1,tdiv_nn (show 0≤b by omega),w64 (by omega) (by omega),w64 (by omega) (by omega)]
    by_cases ha:a % w=0
    · rw[if_pos ha,if_neg (by omega)]
      by_cases hb:b % w=0
      · rw[if_pos hb,if_neg (by omega),if_neg (by omega),if_pos ⟨ha,hb⟩]
      · rw[if_neg hb,if_neg (fun k=>hb k.2)]
    · rw[if_neg ha,if_neg (fun k=>ha k.1)]
  · rw[if_neg (show ¬(WidP w∧RngP a b) from fun k=>h k.2)]
    by_cases h1:a<0
    · rw[if_pos h1]
    rw[if_neg h1]
    by_cases h2:35184372088832<b
    · rw[if_pos h2]
    rw[if_neg h2,if_pos (by unfold RngP at h;omega)]
theorem wi_span (n:Nat) (a b w:Int):wi_Span (n+3) a b w=some (spanV a b w):=by
  rw[wi_Span_eq,wi_width_eq,wi_in,obs,obs,tfn,tfd]
  by_cases h:WidP w
  · rw[if_pos (show 1≤w∧w≤1099511627776 from h)];exact span_tail a b h
  · rw[if_neg (show ¬(1≤w∧w≤1099511627776) from h)];unfold spanV;rw[if_neg (fun k=>h k.1)]
noncomputable def oneV (s:Sta) (k a b:Int):Int :=
  if (spanV a b (tierW s.1 k)).2.2=0 then (if (spanV a b (tierW s.1 k)).1<(oldV s.2.1 (tierW s.1 k) (tierN s.1 k)).1 then 11 else 0) else (spanV a b (tierW s.1 k)).2.2
theorem kept_ok {s:Sta} (h:StaOk s) {k:Int} (h0:0≤k) (h2:k≤2):keptV s k=((oldV s.2.1 (tierW s.1 k) (tierN s.1 k)).1,(s.2.1 / tierW s.1 k,0)):=by
  unfold keptV;rw[if_pos h,if_neg (by omega)]
theorem tier3 {t:Int} (h1:1≤t) (h3:t≤3):IntKind.wrap .i64 (t-1)=t-1:=w64 (by omega) (by omega)
theorem query_one_val (n:Nat) {s:Sta} (hw:StaW s) (h:StaOk s) {t:Int} (h1:1≤t) (h3:t≤3) (a b:Int):query_one (n+17) s t a b=some (oneV s (t-1) a b):=by
  rw[query_one_eq,tier3 h1 h3]
  have hk:=kept_ok h (k:=t-1) (by omega) (by omega)
  unfold oneV
  rcases (by omega:t=1∨t=2∨t=3) with e | e | e<;>subst e
  · rw[show ((1:Int)-1)=0 from rfl] at hk ⊢
    rw[decide_eq_true (show (0:Int)=0 from rfl),tft]
    change obind (wi_Span _ a b (tierW s.1 0)) _=_
    rw[wi_span (n+13),obs,tfn,tfd,csc_kept n hw 0,hk,obs]
    by_cases hs:(spanV a b (tierW s.1 0)).2.2=0
    · rw[if_pos hs,if_pos hs,decide_eq_true rfl,tft,tfd];split<;>rfl
    · rw[if_neg hs,if_neg hs]
  · rw[show ((2:Int)-1)=1 from rfl] at hk ⊢
    rw[decide_eq_false (show ¬((1:Int)=0) by decide),tff]
    rw[decide_eq_true (show (1:Int)=1 from rfl),tft]
    change obind (wi_Span _ a b (tierW s.1 1)) _=_
    rw[wi_span (n+13),obs,tfn,tfd,csc_kept n hw 1,hk,obs]
    by_cases hs:(spanV a b (tierW s.1 1)).2.2=0
    · rw[if_pos hs,if_pos hs,decide_eq_true rfl,tft,tfd];split<;>rfl
    · rw[if_neg hs,if_neg hs]
  · rw[show ((3:Int)-1)=2 from rfl] at hk ⊢
    rw[decide_eq_false (show ¬((2:Int)=0) by decide),tff]
    rw[decide_eq_false (show ¬((2:Int)=1) by decide),tff]
    rw[decide_eq_true (show (2:Int)=2 from rfl),tft]
    change obind (wi_Span _ a b (tierW s.1 2)) _=_
    rw[wi_span (n+13),obs,tfn,tfd,csc_kept n hw 2,hk,obs]
    by_cases hs:(spanV a b (tierW s.1 2)).2.2=0
    · rw[if_pos hs,if_pos hs,decide_eq_true rfl,tft,tfd];split<;>rfl
    · rw[if_neg hs,if_neg hs]
theorem span_why (a b w:Int):(spanV a b w).2.2=0∨(spanV a b w).2.2=1∨(spanV a b w).2.2=10:=by
  unfold spanV;split
  · split
    · exact .inl rfl
    · exact .inr (.inr rfl)
  · exact .inr (.inl rfl)
theorem one_why (s:Sta) (k a b:Int):oneV s k a b=0∨oneV s k a b=1∨oneV s k a b=10∨oneV s k a b=11:=by
  unfold oneV
  rcases span_why a b (tierW s.1 k) with h | h | h<;>rw[h]
  · rw[if_pos rfl];split
    · exact .inr (.inr (.inr rfl))
    · exact .inl rfl
  · exact .inr (.inl rfl)
  · exact .inr (.inr (.inl rfl))
noncomputable def whichV (s:Sta) (a b:Int):Nat→Int→Int→Int×Int
  | 0,_,why=>(0,why)
  | d+1,t,why=>if oneV s (t-1) a b=0 then (t,0) else if oneV s (t-1) a b=1 then (0,1) else whichV s a b d (t+1) (if oneV s (t-1) a b=11 then 11 else why)
theorem which_0 {s:Sta} {a b t:Int} (e:oneV s (t-1) a b=0) (d:Nat) (why:Int):whichV s a b (d+1) t why=(t,0):=by
  conv=>lhs;unfold whichV
  rw[if_pos e]
theorem which_1 {s:Sta} {a b t:Int} (e:oneV s (t-1) a b=1) (d:Nat) (why:Int):whichV s a b (d+1) t why=(0,1):=by
  conv=>lhs;unfold whichV
  rw[if_neg (by omega),if_pos e]
theorem which_10 {s:Sta} {a b t:Int} (e:oneV s (t-1) a b=10) (d:Nat) (why:Int):whichV s a b (d+1) t why=whichV s a b d (t+1) why:=by
  conv=>lhs;unfold whichV
  rw[if_neg (by omega),if_neg (by omega),if_neg (by omega)]
theorem which_11 {s:Sta} {a b t:Int} (e:oneV s (t-1) a b=11) (d:Nat) (why:Int):whichV s a b (d+1) t why=whichV s a b d (t+1) 11:=by
  conv=>lhs;unfold whichV
  rw[if_neg (by omega),if_neg (by omega),if_pos e]
theorem query_which_l3 (n:Nat) {s:Sta} (hw:StaW s) (h:StaOk s) (a b:Int):∀(d f:Nat) (t why:Int),1≤t→t+d=4→d<f →
    query_whichever_l3 (n+17) f (a,b,s,why,t,())=some (if (whichV s a b d t why).2=0 then .inr (whichV s a b d t why) else if (whichV s a b d t why).2=1 then .inr (whichV s a b d t why) else .inl ((whichV s a b d t why).2,()))∨(why≠10∧why≠11):=by
  intro d
  induction d with
  | zero =>
    intro f t why h1 ht hf
    obtain ⟨f,rfl⟩:∃g,f=g+1:=⟨f-1,by omega⟩
    by_cases hy:why≠10∧why≠11
    · exact .inr hy
    refine .inl ?_
    rw[query_whichever_l3_eq,decide_eq_false (by omega),tff]
    unfold whichV
    rw[if_neg (by simp only;omega),if_neg (by simp only;omega)]
  | succ d ih =>
    intro f t why h1 ht hf
    obtain ⟨f,rfl⟩:∃g,f=g+1:=⟨f-1,by omega⟩
    by_cases hy:why≠10∧why≠11
    · exact .inr hy
    refine .inl ?_
    rw[query_whichever_l3_eq,decide_eq_true (by omega),tft,query_one_val n hw h h1 (by omega),obs,w64 (by omega) (by omega)]
    simp only[tfd]
    rcases one_why s (t-1) a b with e | e | e | e
    · rw[which_0 e,e,if_pos rfl,if_pos rfl]
    · rw[which_1 e,e,if_neg (by decide),if_neg (by decide),if_neg (by decide),if_neg (by decide),if_pos rfl]
    · rw[which_10 e,e,if_neg (by decide),if_pos rfl]
      exact (ih f (t+1) why (by omega) (by omega) (by omega)).resolve_right hy
    · rw[which_11 e,e,if_neg (by decide),if_neg (by decide),if_pos rfl]
      exact (ih f (t+1) 11 (by omega) (by omega) (by omega)).resolve_right (by decide)
theorem query_which (n:Nat) {s:Sta} (hw:StaW s) (h:StaOk s) (a b:Int):query_whichever (n+18) s a b=some (whichV s a b 3 1 10):=by
  rw[query_whichever_eq]
  change obind (query_whichever_l3 (n+17) loopFuel (a,b,s,10,1,())) _=_
  rw[(query_which_l3 n hw h a b 3 loopFuel 1 10 (by decide) rfl (by unfold loopFuel;omega)).resolve_right (by decide),obs]
  split
  · rfl
  · split
    · rfl
    · rename_i h0 h1
      rw[selim_inl]
      have hz:(whichV s a b 3 1 10).1=0:=by
        have key:∀(d:Nat) (t why:Int),(whichV s a b d t why).2≠0→(whichV s a b d t why).1=0:=by
          intro d
          induction d with
          | zero=>intro t why _;rfl
          | succ d ih =>
            intro t why
            unfold whichV
            split
            · intro k;exact absurd rfl k
            · split
              · intro _;rfl
              · exact ih _ _
        exact key 3 1 10 h0
      exact congrArg some (Prod.ext hz.symm rfl)
noncomputable def tierV (s:Sta) (t a b:Int):Int×Int :=
  if StaOk s then (if t<0∨3<t then (0,1) else if t=0 then whichV s a b 3 1 10 else if oneV s (t-1) a b=0 then (t,0) else (0,oneV s (t-1) a b)) else (0,2)
theorem query_tier (n:Nat) {s:Sta} (hw:StaW s) (t a b:Int):query_Tier (n+19) s t a b=some (tierV s t a b):=by
  rw[query_Tier_eq,stt_check (n+4) hw,obs,tfn,tfd]
  unfold tierV
  by_cases h:StaOk s
  case neg=>rw[if_neg h,if_neg h];rfl
  rw[if_pos h,if_pos h,if_pos rfl]
  simp only[tfd,tfn]
  by_cases h0:t<0
  · rw[if_pos h0,if_pos (.inl h0)]
  by_cases h3:3<t
  · rw[if_neg h0,if_pos h3,if_pos (.inr h3)]
  rw[if_neg h0,if_neg h3,if_neg (show ¬(t<0∨3<t) by omega)]
  by_cases hz:t=0
  · rw[if_pos hz,if_pos hz,query_which n hw h,obs]
  · rw[if_neg hz,if_neg hz,query_one_val (n+1) hw h (by omega) (by omega),obs]
    by_cases ho:oneV s (t-1) a b=0
    · rw[if_pos ho,if_pos ho]
    · rw[if_neg ho,if_neg ho]
def rateC (c:Cel):(Wd×Wd)×Int:=if c.2.2.2.2.2.2<1 then (((0,0),(0,0)),12) else rateV c.2.2.2.1 c.2.2.2.2.2.2
theorem query_rate (n:Nat) {c:Cel} (hw:WdOk c.2.2.2.1) (hs:c.2.2.2.2.2.2≤9223372036854775807):query_Rate (n+7) c=some (rateC c):=by
  rw[query_Rate_eq,tfd]
  unfold rateC
  by_cases h:c.2.2.2.2.2.2<1
  · rw[if_pos h,if_pos h]
  · rw[if_neg h,if_neg h,wu64 (by omega) (by omega),ratio_rate n hw ⟨by omega,by omega⟩,obs]
theorem ser_rangeK (n:Nat) (c:Conf) {s:Ser} (hw:SerW s) {k:Int} (h0:0≤k) (h2:k≤2) (i j:Int):series_Range (n+22) c s k i j=some (rangeK c s k i j):=by
  unfold rangeK
  rcases (by omega:k=0∨k=1∨k=2) with e | e | e
  · subst e;rw[if_pos rfl];exact series_range0 n c hw i j
  · subst e;rw[if_neg (by decide),if_pos rfl];exact series_range1 n c hw i j
  · subst e;rw[if_neg (by decide),if_neg (by decide)];exact series_range2 n c hw i j
theorem span_ok {a b w:Int} (h:(spanV a b w).2.2=0):WidP w∧RngP a b∧a % w=0∧b % w=0∧spanV a b w=(a / w,(b / w,0))∧0≤a / w∧a / w≤b / w:=by
  unfold spanV at h ⊢
  split at h
  · rename_i h1
    split at h
    · rename_i h2
      rw[if_pos h1,if_pos h2]
      exact ⟨h1.1,h1.2,h2.1,h2.2,rfl,Int.ediv_nonneg h1.2.1 (by have:=h1.1.1;omega),Int.ediv_le_ediv (by have:=h1.1.1;omega) (Int.le_of_lt h1.2.2.2)⟩
    · cases h
  · cases h
theorem one_ok {s:Sta} {k a b:Int} (h:oneV s k a b=0):(spanV a b (tierW s.1 k)).2.2=0∧(oldV s.2.1 (tierW s.1 k) (tierN s.1 k)).1≤(spanV a b (tierW s.1 k)).1:=by
  unfold oneV at h
  split at h
  · rename_i h1
    split at h
    · cases h
    · exact ⟨h1,by omega⟩
  · rename_i h1;exact absurd h h1
theorem which_ok {s:Sta} {a b:Int}:∀(d:Nat) (t why:Int),why≠0→(whichV s a b d t why).2=0→t≤(whichV s a b d t why).1∧(whichV s a b d t why).1<t+d∧oneV s ((whichV s a b d t why).1-1) a b=0:=by
  intro d
  induction d with
  | zero=>intro t why hw h;exact absurd h hw
  | succ d ih =>
    intro t why hw h
    rcases one_why s (t-1) a b with e | e | e | e
    · rw[which_0 e];exact ⟨by simp only;omega,by simp only;omega,e⟩
    · rw[which_1 e] at h;cases h
    · rw[which_10 e] at h ⊢
      obtain ⟨h1,h2,h3⟩:=ih (t+1) why hw h
      exact ⟨by omega,by omega,h3⟩
    · rw[which_11 e] at h ⊢
      obtain ⟨h1,h2,h3⟩:=ih (t+1) 11 (by decide) h
      exact ⟨by omega,by omega,h3⟩
theorem tier_ok {s:Sta} {t a b:Int} (h:(tierV s t a b).2=0):StaOk s∧1≤(tierV s t a b).1∧(tierV s t a b).1≤3∧oneV s ((tierV s t a b).1-1) a b=0∧0≤t∧t≤3∧(1≤t→(tierV s t a b).1=t):=by
  unfold tierV at h ⊢
  by_cases hs:StaOk s
  case neg=>rw[if_neg hs] at h;cases h
  rw[if_pos hs] at h ⊢
  by_cases h1:t<0∨3<t
  · rw[if_pos h1] at h;cases h
  rw[if_neg h1] at h ⊢
  by_cases h0:t=0
  · rw[if_pos h0] at h ⊢
    obtain ⟨k1,k2,k3⟩:=which_ok 3 1 10 (by decide) h
    exact ⟨hs,k1,by omega,k3,by omega,by omega,by omega⟩
  · rw[if_neg h0] at h ⊢
    by_cases ho:oneV s (t-1) a b=0
    · rw[if_pos ho];exact ⟨hs,by simp only;omega,by simp only;omega,ho,by omega,by omega,fun _=>rfl⟩
    · rw[if_neg ho] at h;exact absurd h ho
noncomputable def cellQ (s:Sta) (l:List Lab) (k a b:Int):Cel :=
  match findV s l with
  | some i=>(rangeK s.1 ((s.2.2.2[i]?).getD ser0) k (a / tierW s.1 k) (b / tierW s.1 k)).1
  | none=>z0
theorem found {s:Sta} (hs:StaOk s) {l:List Lab} {i:Nat} (h:findV s l=some i):∃x,s.2.2.2[i]? = some x∧x.1=l∧LvX s x∧SerOk s.1 x:=by
  obtain ⟨x,hx,h1,h2,_⟩:=findV_some.1 h
  exact ⟨x,hx,h1,h2,(live_ok hs (List.mem_of_getElem? hx) h2).1⟩
theorem query_of_val (n:Nat) {s:Sta} (hw:StaW s) (hs:StaOk s) {q:List Lab×(Int×(Int×Int))} {k:Int} (h0:0≤k) (h2:k≤2) (ho:oneV s k q.2.2.1 q.2.2.2=0):query_of (n+23) s q k=some (cellQ s q.1 k q.2.2.1 q.2.2.2,0):=by
  obtain ⟨l,t,a,b⟩:=q
  simp only at ho ⊢
  rw[query_of_eq]
  simp only
  rw[stt_find (n+12) hw l,obs,tfn,tfd]
  unfold cellQ
  cases hf:findV s l with
  | none=>rw[findR_none hs.whole hf,if_neg (show ¬((3:Int)=0) by decide)];rfl
  | some i =>
    obtain ⟨x,hx,hxl,hlv,hok⟩:=found hs hf
    obtain ⟨s1,s2⟩:=one_ok ho
    obtain ⟨_,_,_,_,e,e1,e2⟩:=span_ok s1
    have hfine:=rangeK_fine hok k e1 e2
    rw[findR_some hs.whole hf,if_pos rfl]
    simp only[hx,Option.getD_some]
    have fin:∀(x':Ser),x'=x→obind (series_Range (n+22) s.1 x' k (a / tierW s.1 k) (b / tierW s.1 k)) (fun r=>some r)=some ((rangeK s.1 x k (a / tierW s.1 k) (b / tierW s.1 k)).1,0):=by
      rintro x' rfl
      rw[ser_rangeK n s.1 (hw.at hx).1 h0 h2,obs]
      exact congrArg some (Prod.ext rfl hfine)
    rcases (by omega:k=0∨k=1∨k=2) with ek | ek | ek<;>subst ek
    · rw[decide_eq_true rfl,tft]
      change obind (wi_Span (n+22) a b (tierW s.1 0)) _=_
      rw[wi_span (n+19),obs,e]
      simp only[decide_true,Bool.not_true,tff]
      rw[at_el hx,obs]
      exact fin x rfl
    · rw[decide_eq_false (show ¬((1:Int)=0) by decide),tff,decide_eq_true rfl,tft]
      change obind (wi_Span (n+22) a b (tierW s.1 1)) _=_
      rw[wi_span (n+19),obs,e]
      simp only[decide_true,Bool.not_true,tff]
      rw[at_el hx,obs]
      exact fin x rfl
    · rw[decide_eq_false (show ¬((2:Int)=0) by decide),tff,decide_eq_false (show ¬((2:Int)=1) by decide),tff,decide_eq_true rfl,tft]
      change obind (wi_Span (n+22) a b (tierW s.1 2)) _=_
      rw[wi_span (n+19),obs,e]
      simp only[decide_true,Bool.not_true,tff]
      rw[at_el hx,obs]
      exact fin x rfl
theorem mrgE_okc (a b:Cel):CellOk (mrgE a b).1:=by
  unfold mrgE
  split
  · rename_i h
    split
    · rename_i ha;exact mrg_ok h.1 h.2 ha
    · exact ok_z0
  · exact ok_z0
theorem rangeV_okc (ok:Prop) [Decidable ok] (i j last w:Int) (t:List Slo) (now:Cel×Int):CellOk (rangeV ok i j last w t now).1:=by
  unfold rangeV
  split
  · split
    · exact ok_z0
    split
    · exact ok_z0
    split
    · exact ok_z0
    split
    · exact tfold_okc _ _ _
    split
    · exact tfold_okc _ _ _
    split
    · exact ok_z0
    · exact mrgE_okc _ _
  · exact ok_z0
theorem rangeK_okc (c:Conf) (s:Ser) (k i j:Int):CellOk (rangeK c s k i j).1:=by
  unfold rangeK
  split
  · exact rangeV_okc _ _ _ _ _ _ _
  split
  · exact rangeV_okc _ _ _ _ _ _ _
  · exact rangeV_okc _ _ _ _ _ _ _
theorem cellQ_ok (s:Sta) (l:List Lab) (k a b:Int):CellOk (cellQ s l k a b):=by
  unfold cellQ
  split
  · exact rangeK_okc _ _ _ _ _
  · exact ok_z0
theorem cellOk_rate {c:Cel} (h:CellOk c):WdOk c.2.2.2.1∧c.2.2.2.2.2.2≤9223372036854775807:=by
  rcases h with rfl | h
  · exact ⟨⟨by simp[z0],by simp[z0]⟩,by simp[z0]⟩
  · have h1:=h.s1;have h2:=h.l.t1;have h3:=h.f.t0
    exact ⟨h.w,by omega⟩
abbrev zr:Int×(Cel×((Wd×Wd)×Int)):=(0,(z0,(((0,0),(0,0)),0)))
noncomputable def doQ (s:Sta) (l:List Lab) (t a b:Int):(Int×(Cel×((Wd×Wd)×Int)))×Int :=
  if StaOk s then (if LabOk l then (if (tierV s t a b).2=0 then (((tierV s t a b).1,(cellQ s l ((tierV s t a b).1-1) a b,rateC (cellQ s l ((tierV s t a b).1-1) a b))),0) else (zr,(tierV s t a b).2)) else (zr,8)) else (zr,2)
theorem query_may_val (n:Nat) {s:Sta} (hw:StaW s) (l:List Lab):query_may (n+15) s l=some (if StaOk s then (if LabOk l then 0 else 8) else 2):=by
  rw[query_may_eq,stt_check n hw,obs,tfn,tfd]
  by_cases h:StaOk s
  · rw[if_pos h,if_pos h,if_pos rfl,label_check (n+8) l,obs]
  · rw[if_neg h,if_neg h,if_neg (by decide)]
theorem query_do (n:Nat) {s:Sta} (hw:StaW s) (q:List Lab×(Int×(Int×Int))):query_Do (n+24) s q=some (doQ s q.1 q.2.1 q.2.2.1 q.2.2.2):=by
  rw[query_Do_eq,query_may_val (n+8) hw,obs,tfn,tfd]
  unfold doQ
  by_cases h:StaOk s
  case neg=>rw[if_neg h,if_neg h,if_neg (by decide)];rfl
  rw[if_pos h,if_pos h]
  by_cases hl:LabOk q.1
  case neg=>rw[if_neg hl,if_neg hl,if_neg (by decide)];rfl
  rw[if_pos hl,if_pos hl,if_pos rfl,query_tier (n+4) hw,obs,tfn,tfd]
  by_cases ht:(tierV s q.2.1 q.2.2.1 q.2.2.2).2=0
  case neg=>rw[if_neg ht,if_neg ht];rfl
  obtain ⟨_,t1,t3,ho,_⟩:=tier_ok ht
  have hr:=cellOk_rate (cellQ_ok s q.1 ((tierV s q.2.1 q.2.2.1 q.2.2.2).1-1) q.2.2.1 q.2.2.2)
  rw[if_pos ht,if_pos ht,w64 (by omega) (by omega),query_of_val n hw h (by omega) (by omega) ho,obs]
  simp only[decide_true,Bool.not_true,tff]
  rw[query_rate (n+16) hr.1 hr.2,obs]
theorem ask_labs {q:List Lab×(Int×(Int×Int))} (h:Wf tyAsk q):q.1.length≤9223372036854775807:=h.1.1
end Go.Proofs.YtjeabebacegikaaGreatDoor
namespace Go.Proofs.YtjeabebacegikaaGreatDoor
open Go.Flat
theorem ob {α β:Type} {o:Option α} {x:α} {f:α→Option β} {r:Option β} (h:o=some x) (k:f x=r):obind o f=r:=by rw[h];exact k
theorem tt {α:Type} {b:Bool} {x y r:α} (h:b=true) (k:x=r):tif b x y=r:=by rw[h];exact k
theorem tf {α:Type} {b:Bool} {x y r:α} (h:b=false) (k:y=r):tif b x y=r:=by rw[h];exact k
end Go.Proofs.YtjeabebacegikaaGreatDoor
