/-
  Plain proofs about the functions of this seat, part 2 of 4.
-/
import Derived.Test.YtjeabebacegikaaGreatDoorQ1
import Derived.Test.YtjeabebacegikaaGreatDoorTr
import Derived.Test.YtjeabebacegikaaGreatDoorFlatM3
namespace Go.Proofs.YtjeabebacegikaaGreatDoor
open Go.Flat Go.Plim
set_option linter.unusedVariables false
set_option linter.unusedSimpArgs false
theorem ev_wf {e:Ev} (h:Wf tyEvent e):EvW e:=by
  obtain ⟨h1,h2,h3,_⟩:=h
  exact ⟨h1,h2,h3⟩
theorem r13_get (n:Nat) {l:List Slo} (h0:1≤l.length) (i:Int):r13_Get (n+2) l i=some (tget l i):=by
  rw[r13_Get_eq]
  simp only[tfd,tfn]
  unfold tget
  by_cases h1:i<0
  · rw[if_pos h1,if_pos h1];rfl
  rw[if_neg h1,if_neg h1,if_neg (by omega),r09_slot,slotOf_val (by omega) (by omega)]
  have hm:=Int.emod_nonneg i (show (l.length:Int)≠0 by omega)
  have hm':=Int.emod_lt_of_pos i (show (0:Int)<l.length by omega)
  have e:at? l (i % (l.length:Int))=l[(i % (l.length:Int)).toNat]? := by
    obtain ⟨k,hk⟩:=Int.eq_ofNat_of_zero_le hm
    rw[hk];exact at_nat l k
  have hlt:(i % (l.length:Int)).toNat<l.length:=by omega
  simp only[obs,e,List.getElem?_eq_getElem hlt]
  by_cases h2:l[(i % (l.length:Int)).toNat].1=i
  · rw[if_pos h2,if_pos h2]
  · rw[if_neg h2,if_neg h2];rfl
theorem tier_put (n:Nat) {l:List Slo} (w i:Int) {c:Cel} (hw:∀s∈l,SloW s) (hc:CelW c):tier_Put (n+8) l w i c=some (if TierOk l w∧FitsP c w i then (tput l i c,0) else ([],2)):=by
  rw[tier_Put_eq,tier_check n l w hw,tier_fits (n+1) hc]
  simp only[obs,tfn,tfd,z02]
  by_cases h1:TierOk l w
  case neg=>rw[if_neg h1,if_neg (fun k=>h1 k.1)]
  by_cases h2:FitsP c w i
  case neg=>rw[if_pos h1,if_neg h2,if_neg (fun k=>h2 k.2)]
  have l0:=h1.l0;have l1:=h1.l1
  have hi:=h2.i0
  rw[if_pos h1,if_pos h2,if_pos (And.intro h1 h2),clone_slot _ l (by omega)]
  simp only[obs,wi_slot,slotOf_val hi.1 (show (1:Int)≤l.length by omega)]
  have hm:=Int.emod_nonneg i (show (l.length:Int)≠0 by omega)
  have hm':=Int.emod_lt_of_pos i (show (0:Int)<l.length by omega)
  have e:at? l (i % (l.length:Int))=l[(i % (l.length:Int)).toNat]? := by
    obtain ⟨k,hk⟩:=Int.eq_ofNat_of_zero_le hm
    rw[hk];exact at_nat l k
  have hlt:(i % (l.length:Int)).toNat<l.length:=by omega
  simp only[e,List.getElem?_eq_getElem hlt,obs]
  rfl
theorem tier_new (n:Nat) (m:Int):tier_New (n+1) m=some (if 1≤m∧m≤4096 then List.replicate m.toNat s0 else []):=by
  rw[tier_New_eq]
  simp only[tfd,tif_and]
  by_cases h1:m<1
  · rw[if_pos h1,if_neg (by omega)]
  by_cases h2:4096<m
  · rw[if_neg h1,if_pos h2,if_neg (by omega)]
  rw[if_neg h1,if_neg h2,if_pos (by omega),if_pos (by omega),if_pos (by omega),if_pos (by omega)]
  rfl
def inW (i k:Int) (s:Slo):Bool:=decide (i≤s.1∧s.1<k)
theorem tier_fold_l (n:Nat) (i k:Int) (s6:Cel) (l:List Slo) (hL:l.length≤1000000):∀(rest pre:List Slo) (f:Nat) (cells:List Cel) (ix len:Int),l=pre++rest→ix=pre.length→len=l.length→rest.length<f→cells.length≤pre.length →
    tier_Fold_l5 n f (i,k,s6,cells,l,len,ix,())=some (.inl (s6,cells++(rest.filter (inW i k)).map (·.2),())):=by
  intro rest
  induction rest with
  | nil =>
    intro pre f cells ix len hl hi hn hf hc
    obtain ⟨f,rfl⟩:∃g,f=g+1:=⟨f-1,by simp at hf;omega⟩
    rw[tier_Fold_l5_eq]
    simp only[tfd,if_neg (idxe hl hi hn),List.filter_nil,List.map_nil,List.append_nil]
  | cons x rest ih =>
    intro pre f cells ix len hl hi hn hf hc
    obtain ⟨f,rfl⟩:∃g,f=g+1:=⟨f-1,by simp at hf;omega⟩
    rw[tier_Fold_l5_eq]
    have hp:pre.length+1≤l.length:=by have:=congrArg List.length hl;simp at this;omega
    simp only[tfd,if_pos (idx hl hi hn),at_mid hl hi,obs,idxw hl hi (by omega)]
    by_cases h1:i≤x.1
    · rw[if_pos h1]
      by_cases h2:x.1<k
      · rw[if_pos h2,if_pos (by omega),ih (pre++[x]) f _ (ix+1) len (idxl hl) (idxs hi) hn (by simp at hf;omega) (by simp;omega)]
        have:inW i k x=true:=by simp[inW,h1,h2]
        rw[List.filter_cons_of_pos this]
        simp
      · rw[if_neg h2,ih (pre++[x]) f _ (ix+1) len (idxl hl) (idxs hi) hn (by simp at hf;omega) (by simp;omega)]
        rw[List.filter_cons_of_neg (by simp[inW,h2])]
    · rw[if_neg h1,ih (pre++[x]) f _ (ix+1) len (idxl hl) (idxs hi) hn (by simp at hf;omega) (by simp;omega)]
      rw[List.filter_cons_of_neg (by simp[inW,h1])]
theorem within_w {l:List Slo} {w:Int} (h:TierOk l w) (i k:Int):∀c∈within l i k,CellN c:=by
  intro c hc
  simp only[within,List.mem_map,List.mem_filter] at hc
  obtain ⟨s,⟨hs,_⟩,rfl⟩:=hc
  exact (tall_fits h hs).1.n
theorem tall_len {l:List Slo}:(tall l).length≤l.length:=by
  rw[(tall_perm l).length_eq];exact List.length_filter_le _ _
theorem within_len (l:List Slo) (i k:Int):(within l i k).length≤l.length:=by
  unfold within
  rw[List.length_map]
  exact Nat.le_trans (List.length_filter_le _ _) tall_len
theorem tier_fold (n:Nat) {l:List Slo} {w:Int} (h:TierOk l w) (i k:Int):tier_Fold (n+18) l i k=some (tfold l i k):=by
  have l1:=h.l1
  have ht:=tall_len (l:=l)
  rw[tier_Fold_eq]
  simp only[tfd]
  unfold tfold
  by_cases h1:i<0
  · rw[if_pos h1,if_pos (.inl h1)];rfl
  by_cases h2:k<i
  · rw[if_neg h1,if_pos h2,if_pos (.inr h2)];rfl
  rw[if_neg h1,if_neg h2,if_neg (by omega),tier_all n h]
  simp only[obs]
  rw[tier_fold_l (n+17) i k _ (tall l) (by omega) (tall l) [] loopFuel [] 0 _ rfl rfl rfl (by unfold loopFuel;omega) (by simp)]
  simp only[obs,selim_inl,List.nil_append]
  have e:List.map (·.2) (List.filter (inW i k) (tall l))=within l i k:=rfl
  rw[e,cell_all (n+10) _ (by have:=within_len l i k;omega) (fun c hc => .ofN (within_w h i k c hc))]
  rfl
theorem slow_s0:SloW s0:=⟨by simp[I64,s0],celW_z0⟩
theorem tierOk_w {l:List Slo} {w:Int} (h:TierOk l w):∀s∈l,SloW s:=by
  intro s hs
  obtain ⟨j,hj⟩:=List.getElem?_of_mem hs
  rcases h.s j s hj with rfl | ⟨_,hf⟩
  · exact slow_s0
  · have:=hf.i0
    exact ⟨by unfold I64;omega,.ofN hf.n⟩
theorem quo_ev {e:Ev} (h:EvOk e) {w:Int} (hw:1≤w):IntKind.wrap .i64 (Int.tdiv e.1 w)=e.1 / w:=by
  have h0:=h.t0;have h1:=h.t1
  have:0≤e.1 / w:=Int.ediv_nonneg h0 (by omega)
  have:e.1 / w≤e.1:=Int.ediv_le_self _ h0
  rw[tdiv_nn h0,w64 (by omega) (by omega)]
theorem quo_ev_range {e:Ev} (h:EvOk e) {w:Int} (hw:1≤w):0≤e.1 / w∧e.1 / w<35184372088832:=by
  have h0:=h.t0;have h1:=h.t1
  have:0≤e.1 / w:=Int.ediv_nonneg h0 (by omega)
  have:e.1 / w≤e.1:=Int.ediv_le_self _ h0
  omega
end Go.Proofs.YtjeabebacegikaaGreatDoor

namespace Go.Plim
set_option linter.unusedVariables false
def rng (w:Int) (l:List Ev) (i k:Int):List Ev:=l.filter fun e=>decide (i≤e.1 / w∧e.1 / w<k)
def win (w:Int) (l:List Ev) (i:Int):List Ev:=l.filter fun e=>decide (e.1 / w=i)
theorem win_rng (w:Int) (l:List Ev) (i:Int):win w l i=rng w l i (i+1):=by
  unfold win rng
  congr 1
  funext e
  exact decide_eq_decide.2 (by omega)
theorem rng_foll {w:Int} {l:List Ev} (h:Foll l) (i k:Int):Foll (rng w l i k):=h.sub List.filter_sublist
theorem win_foll {w:Int} {l:List Ev} (h:Foll l) (i:Int):Foll (win w l i):=h.sub List.filter_sublist
theorem wd_mono {w:Int} (hw:1≤w) {a b:Ev} (h:a.1<b.1):a.1 / w≤b.1 / w:=Int.ediv_le_ediv (by omega) (by omega)
theorem foll_wd {w:Int} (hw:1≤w) {l:List Ev} (h:Foll l):l.Pairwise fun a b=>a.1 / w≤b.1 / w:=h.inc.imp fun k=>wd_mono hw k
theorem split_sorted (f:Ev→Int) {i a k:Int} (h1:i≤a) (h2:a≤k):∀ {l:List Ev},l.Pairwise (fun x y=>f x≤f y) →
    l.filter (fun e=>decide (i≤f e∧f e<k))=l.filter (fun e=>decide (i≤f e∧f e<a))++l.filter (fun e=>decide (a≤f e∧f e<k)):=by
  intro l
  induction l with
  | nil=>intro _;rfl
  | cons x l ih =>
    intro h
    rw[List.pairwise_cons] at h
    have ih':=ih h.2
    by_cases c1:i≤f x∧f x<k
    · by_cases c2:f x<a
      · rw[List.filter_cons_of_pos (by simpa using c1),List.filter_cons_of_pos (by simp;omega),List.filter_cons_of_neg (by simp;omega),ih']
        rfl
      · have e:l.filter (fun e=>decide (i≤f e∧f e<a))=[]:=by
          rw[List.filter_eq_nil_iff]
          intro y hy
          have:=h.1 y hy
          simp;omega
        rw[List.filter_cons_of_pos (by simpa using c1),List.filter_cons_of_neg (by simp;omega),List.filter_cons_of_pos (by simp;omega),ih',e]
        rfl
    · rw[List.filter_cons_of_neg (by simpa using c1),List.filter_cons_of_neg (by simp;omega),List.filter_cons_of_neg (by simp;omega),ih']
theorem rng_split {w:Int} (hw:1≤w) {l:List Ev} (h:Foll l) {i a k:Int} (h1:i≤a) (h2:a≤k):rng w l i k=rng w l i a++rng w l a k :=
  split_sorted (fun e=>e.1 / w) h1 h2 (foll_wd hw h)
theorem rng_empty {w:Int} {l:List Ev} {i k:Int} (h:∀e∈l,¬(i≤e.1 / w∧e.1 / w<k)):rng w l i k=[]:=by
  unfold rng
  rw[List.filter_eq_nil_iff]
  intro e he
  simpa using h e he
theorem mrgE_append {a b:List Ev} (h:Foll (a++b)):mrgE (cellOf a) (cellOf b)=(cellOf (a++b),0):=by
  obtain ⟨h1,h2,_⟩:=foll_append.1 h
  unfold mrgE
  rw[if_pos (And.intro (cellOf_ok h1) (cellOf_ok h2)),if_pos (cellOf_ahead h),cellOf_append h]
theorem fold_cells {w:Int} (hw:1≤w) {l:List Ev} (h:Foll l) {i k:Int}:∀(L:List Slo) (lo:Int),Up L→(∀s∈L,s.2=cellOf (win w l s.1)∧lo≤s.1∧s.1<k)→i≤lo→lo≤k →
    (∀e∈l,lo≤e.1 / w→e.1 / w<k→∃s∈L,s.1=e.1 / w)→allE (cellOf (rng w l i lo)) (L.map (·.2))=(cellOf (rng w l i k),0):=by
  intro L
  induction L with
  | nil =>
    intro lo _ _ h1 h2 h3
    have e:rng w l lo k=[]:=rng_empty fun e he hc=>by
      obtain ⟨s,hs,_⟩:=h3 e he hc.1 hc.2
      cases hs
    rw[rng_split hw h h1 h2,e,List.append_nil]
    rfl
  | cons s L ih =>
    intro lo hu hs h1 h2 h3
    unfold Up at hu
    rw[List.pairwise_cons] at hu
    obtain ⟨e1,e2,e3⟩:=hs s (by simp)
    have gap:rng w l lo s.1=[]:=rng_empty fun e he hc=>by
      obtain ⟨s',hs',he'⟩:=h3 e he hc.1 (by omega)
      rcases List.mem_cons.1 hs' with rfl | hs'
      · omega
      · have:=hu.1 s' hs';omega
    have ea:rng w l i lo=rng w l i s.1:=by rw[rng_split hw h h1 e2,gap,List.append_nil]
    have eb:rng w l i (s.1+1)=rng w l i s.1++win w l s.1:=by rw[win_rng,rng_split hw h (show i≤s.1 by omega) (show s.1≤s.1+1 by omega)]
    have hf:Foll (rng w l i s.1++win w l s.1):=by rw[←eb];exact rng_foll h _ _
    simp only[List.map_cons,allE]
    rw[ea,e1,mrgE_append hf,if_pos rfl,←eb]
    refine ih (s.1+1) hu.2 (fun s' hs' => ?_) (by omega) (by omega) (fun e he c1 c2 => ?_)
    · obtain ⟨f1,_,f3⟩:=hs s' (by simp[hs'])
      have:=hu.1 s' hs'
      exact ⟨f1,by omega,f3⟩
    · obtain ⟨s',hs',he'⟩:=h3 e he (by omega) c2
      rcases List.mem_cons.1 hs' with rfl | hs'
      · omega
      · exact ⟨s',hs',he'⟩
theorem mem_tall_iff {l:List Slo} {w:Int} (h:TierOk l w) {s:Slo}:s∈tall l↔s≠s0∧l[(s.1 % (l.length:Int)).toNat]? = some s:=by
  constructor
  · intro hs;exact ⟨(mem_tall.1 hs).2,(tall_fits h hs).2⟩
  · rintro ⟨h1,h2⟩;exact mem_tall.2 ⟨List.mem_of_getElem? h2,h1⟩
theorem tall_N {l:List Slo} {w:Int} (h:TierOk l w) {s:Slo} (hs:s∈tall l):CellN s.2:=(tall_fits h hs).1.n
theorem rest_ne {a b n:Int} (hn:1≤n) (h1:a<b) (h2:b<a+n):a % n≠b % n:=by
  intro e
  have:(b-a) % n=0:=by rw[Int.sub_emod,e];simp
  have h3:(b-a) % n=b-a:=Int.emod_eq_of_lt (by omega) (by omega)
  omega
theorem win_snoc (w:Int) (l:List Ev) (e:Ev) (i:Int):win w (l++[e]) i=if e.1 / w=i then win w l i++[e] else win w l i:=by
  unfold win
  rw[List.filter_append]
  by_cases h:e.1 / w=i
  · simp[h]
  · simp[h]
theorem mem_win {w:Int} {l:List Ev} {i:Int} {e:Ev}:e∈win w l i↔e∈l∧e.1 / w=i:=by simp[win]
structure TierInv (t:List Slo) (w:Int) (l:List Ev):Prop where
  ok:TierOk t w
  cells:∀s∈tall t,s.2=cellOf (win w l s.1)
  kept:∀i,(∃e∈l,e.1 / w=i)→(∀e∈l,e.1 / w<i+(t.length:Int))→(i,cellOf (win w l i))∈tall t
theorem tierInv_nil {n:Nat} {w:Int} (h0:1≤n) (h1:n≤4096) (w0:1≤w) (w1:w≤1099511627776):TierInv (List.replicate n s0) w []:=by
  have all:∀(j:Nat) s,(List.replicate n s0)[j]? = some s→s=s0:=fun j s hs=>List.eq_of_mem_replicate (List.mem_of_getElem? hs)
  refine ⟨⟨by simpa using h0,by simpa using h1,w0,w1,fun j s hs => .inl (all j s hs)⟩,fun s hs => ?_,fun i ⟨e,he,_⟩=>by cases he⟩
  have:=mem_tall.1 hs
  obtain ⟨j,hj⟩:=List.getElem?_of_mem this.1
  exact absurd (all j s hj) this.2
theorem cellOf_fits {w i:Int} {l:List Ev} (h:Foll l) (hn:l≠[]) (hi:∀e∈l,e.1 / w=i) (w0:1≤w) (w1:w≤1099511627776):FitsP (cellOf l) w i:=by
  have hs:=cellOf_N h hn
  exact ⟨hs.n,w0,w1,hi _ (List.mem_of_head? hs.first),hi _ (List.mem_of_getLast? hs.last)⟩
theorem tput_len (t:List Slo) (i:Int) (c:Cel):(tput t i c).length=t.length:=by simp[tput]
theorem tierInv_put {t:List Slo} {w:Int} {l:List Ev} {e:Ev} (h:TierInv t w l) (hl:Foll (l++[e])):FitsP (cellOf (win w l (e.1 / w)++[e])) w (e.1 / w)∧TierInv (tput t (e.1 / w) (cellOf (win w l (e.1 / w)++[e]))) w (l++[e]):=by
  obtain ⟨hok,hcells,hkept⟩:=h
  have w0:=hok.w0
  have hl':=(foll_append.1 hl).1
  have hlt:∀x∈l,x.1<e.1:=fun x hx=>(foll_append.1 hl).2.2 x hx e (by simp)
  have hle:∀x∈l,x.1 / w≤e.1 / w:=fun x hx=>wd_mono w0 (hlt x hx)
  have ews:win w (l++[e]) (e.1 / w)=win w l (e.1 / w)++[e]:=by rw[win_snoc,if_pos rfl]
  have hwf:Foll (win w l (e.1 / w)++[e]):=by rw[←ews];exact win_foll hl _
  have hfit:FitsP (cellOf (win w l (e.1 / w)++[e])) w (e.1 / w):=by
    refine cellOf_fits hwf (by simp) (fun x hx => ?_) w0 hok.w1
    rcases List.mem_append.1 hx with hx | hx
    · exact (mem_win.1 hx).2
    · simp at hx;rw[hx]
  generalize hi:e.1 / w=i at *
  generalize hc:cellOf (win w l i++[e])=c at *
  have hok':=tput_ok hok hfit
  have hlen:=tput_len t i c
  have hn:=hok.l0
  have i0:=hfit.i0
  have hm:=Int.emod_nonneg i (show (t.length:Int)≠0 by omega)
  have hm':=Int.emod_lt_of_pos i (show (0:Int)<t.length by omega)
  have cne:(i,c)≠s0:=fun k=>hfit.n.ne (congrArg Prod.snd k)
  have here:(tput t i c)[(i % (t.length:Int)).toNat]? = some (i,c):=by
    unfold tput
    rw[List.getElem?_set,if_pos rfl,if_pos (by omega)]
  have there:∀j:Nat,j≠(i % (t.length:Int)).toNat→(tput t i c)[j]? = t[j]? := fun j hj=>by
    unfold tput
    rw[List.getElem?_set,if_neg (Ne.symm hj)]
  refine ⟨hfit,hok',fun s hs => ?_,fun j ⟨x,hx,hxj⟩ hall => ?_⟩
  · rw[mem_tall_iff hok',hlen] at hs
    obtain ⟨s1,s2⟩:=hs
    by_cases hj:(s.1 % (t.length:Int)).toNat=(i % (t.length:Int)).toNat
    · rw[hj,here] at s2
      injection s2 with s2
      subst s2
      rw[ews,hc]
    · rw[there _ hj] at s2
      have:=hcells s ((mem_tall_iff hok).2 ⟨s1,s2⟩)
      rw[win_snoc,if_neg (fun k=>hj (by rw[←k,hi])),this]
  · rw[hlen] at hall
    rw[mem_tall_iff hok',hlen]
    rcases List.mem_append.1 hx with hx | hx
    · by_cases hji:j=i
      · subst hji
        rw[ews,hc]
        exact ⟨cne,here⟩
      · have hxi:=hle x hx
        have hil:=hall e (by simp)
        have hjlt:j<i:=by omega
        have:=hkept j ⟨x,hx,hxj⟩ (fun y hy=>hall y (by simp[hy]))
        rw[mem_tall_iff hok] at this
        rw[win_snoc,if_neg (by omega)]
        refine ⟨this.1,?_⟩
        rw[there _ ?_]
        · exact this.2
        · intro k
          have k:(j % (t.length:Int)).toNat=(i % (t.length:Int)).toNat:=k
          have hjm:=Int.emod_nonneg j (show (t.length:Int)≠0 by omega)
          exact rest_ne (n:=(t.length:Int)) (by omega) hjlt (by omega) (by omega)
    · simp at hx
      subst hx
      rw[hi] at hxj
      subst hxj
      rw[ews,hc]
      exact ⟨cne,here⟩
theorem tierInv_fold {t:List Slo} {w:Int} {l:List Ev} (h:TierInv t w l) (hl:Foll l) {i k:Int} (h0:0≤i) (hik:i≤k) (hk:∀e∈l,e.1 / w<i+(t.length:Int)):tfold t i k=(cellOf (rng w l i k),0):=by
  unfold tfold
  rw[if_neg (by omega)]
  have hu:Up ((tall t).filter fun s=>decide (i≤s.1∧s.1<k)):=(tall_up h.ok).sublist List.filter_sublist
  have:=fold_cells (i:=i) (k:=k) h.ok.w0 hl ((tall t).filter fun s=>decide (i≤s.1∧s.1<k)) i hu (fun s hs => ?_) (Int.le_refl _) hik (fun e he c1 c2 => ?_)
  · have e0:rng w l i i=[]:=rng_empty fun e _=>by omega
    rw[e0] at this
    exact this
  · obtain ⟨s1,s2⟩:=List.mem_filter.1 hs
    have s2:=of_decide_eq_true s2
    exact ⟨h.cells s s1,s2.1,s2.2⟩
  · have:=h.kept (e.1 / w) ⟨e,he,rfl⟩ (fun x hx=>by have:=hk x hx;omega)
    exact ⟨_,List.mem_filter.2 ⟨this,by simp;omega⟩,rfl⟩
end Go.Plim

namespace Go.Proofs.YtjeabebacegikaaGreatDoor
open Go.Flat
abbrev Conf:=Int×((Int×(Int×Int))×((Int×(Int×Int))×(Int×Int)))
def prt (n e:Int):Int:=(n+e-1) / e
def plc (c:Conf):Int:=1+prt c.1 16+prt c.2.2.1.1 4+prt c.2.2.1.2.1 4+prt c.2.2.1.2.2 4
structure Rng (c:Conf):Prop where
  raw:1≤c.1∧c.1≤4096
  cap:1≤c.2.2.2.1∧c.2.2.2.1≤65536
  log:1≤c.2.2.2.2∧c.2.2.2.2≤8192
  w0:1≤c.2.1.1∧c.2.1.1≤1099511627776
  w1:1≤c.2.1.2.1∧c.2.1.2.1≤1099511627776
  w2:1≤c.2.1.2.2∧c.2.1.2.2≤1099511627776
  n0:1≤c.2.2.1.1∧c.2.2.1.1≤4096
  n1:1≤c.2.2.1.2.1∧c.2.2.1.2.1≤4096
  n2:1≤c.2.2.1.2.2∧c.2.2.1.2.2≤4096
structure OkC (c:Conf):Prop where
  rng:Rng c
  m1:c.2.1.2.1 % c.2.1.1=0
  d1:c.2.1.2.1 / c.2.1.1≤c.2.2.1.1
  m2:c.2.1.2.2 % c.2.1.2.1=0
  d2:c.2.1.2.2 / c.2.1.2.1≤c.2.2.1.2.1
  pl:plc c<c.2.2.2.2
theorem parts_val (n:Nat) (x e:Int) (he:1≤e) (he':e≤1000) (hx:0≤x) (hx':x≤1000000000):conf_parts (n+1) x e=some (prt x e):=by
  rw[conf_parts_eq]
  have h1:¬(e=0):=by omega
  simp only[tfd,if_neg h1]
  rw[w64 (x:=x+e) (by omega) (by omega),w64 (x:=x+e-1) (by omega) (by omega),tdiv_nn (by omega)]
  have h2:0≤(x+e-1) / e:=Int.ediv_nonneg (by omega) (by omega)
  have h3:(x+e-1) / e≤x+e-1:=Int.ediv_le_self _ (by omega)
  rw[w64 (by omega) (by omega)]
  rfl
theorem prt_step (x e:Int) (he:1≤e):prt x e=1+prt (x-e) e:=by
  unfold prt
  rw[show x+e-1=(x-e+e-1)+1*e by omega,Int.add_mul_ediv_right _ _ (by omega)]
  omega
theorem prt_zero (x e:Int) (h1 : -e<x) (hx:x≤0):prt x e=0:=Int.ediv_eq_zero_of_lt (by omega) (by omega)
theorem r10_parts_loop (n:Nat) (e:Int) (he:1≤e) (he':e≤1000):∀(m f:Nat) (x k:Int),x≤m → -e<x→m<f→0≤k→k+m≤1000000000→m≤1000000000→r10_parts_l2 n f (x,e,k,())=some (.inl (k+prt x e,())):=by
  intro m
  induction m with
  | zero =>
    intro f x k hx hx' hf hk hkm hm
    obtain ⟨f,rfl⟩:∃g,f=g+1:=⟨f-1,by omega⟩
    rw[r10_parts_l2_eq]
    have h1:¬((0:Int)<x):=by omega
    simp only[tfd,if_neg h1]
    rw[prt_zero x e hx' (by omega),Int.add_zero]
  | succ m ih =>
    intro f x k hx hx' hf hk hkm hm
    obtain ⟨f,rfl⟩:∃g,f=g+1:=⟨f-1,by omega⟩
    rw[r10_parts_l2_eq]
    by_cases h1:(0:Int)<x
    · simp only[tfd,if_pos h1]
      rw[w64 (x:=x-e) (by omega) (by omega),w64 (x:=k+1) (by omega) (by omega),ih f (x-e) (k+1) (by omega) (by omega) (by omega) (by omega) (by omega) (by omega),prt_step x e he]
      congr 3
      omega
    · simp only[tfd,if_neg h1]
      rw[prt_zero x e hx' (by omega),Int.add_zero]
theorem r10_parts_val (n:Nat) (x e:Int) (he:1≤e) (he':e≤1000) (hx:0≤x) (hx':x≤100000000):r10_parts (n+1) x e=some (prt x e):=by
  rw[r10_parts_eq,r10_parts_loop n e he he' x.toNat loopFuel x 0 (by omega) (by omega) (by unfold loopFuel;omega) (by omega) (by omega) (by omega)]
  simp
theorem prt_range {x e:Int} (he:1≤e) (hx:0≤x):0≤prt x e∧prt x e≤x:=by
  unfold prt
  refine ⟨Int.ediv_nonneg (by omega) (by omega),?_⟩
  have:x+e-1<(x+1)*e:=by
    have:=Int.mul_le_mul_of_nonneg_left he (show 0≤x by omega)
    rw[Int.add_mul];omega
  have:=Int.ediv_lt_of_lt_mul (by omega) this
  omega
theorem plc_range {c:Conf} (h:Rng c):1≤plc c∧plc c≤20000:=by
  have a:=prt_range (x:=c.1) (e:=16) (by omega) (by have:=h.raw;omega)
  have b:=prt_range (x:=c.2.2.1.1) (e:=4) (by omega) (by have:=h.n0;omega)
  have d:=prt_range (x:=c.2.2.1.2.1) (e:=4) (by omega) (by have:=h.n1;omega)
  have f:=prt_range (x:=c.2.2.1.2.2) (e:=4) (by omega) (by have:=h.n2;omega)
  have:=h.raw;have:=h.n0;have:=h.n1;have:=h.n2
  unfold plc
  omega
theorem place_val (n:Nat) {c:Conf} (h:Rng c):conf_place (n+2) c=some (plc c):=by
  have h0:=h.raw;have h1:=h.n0;have h2:=h.n1;have h3:=h.n2
  rw[conf_place_eq,parts_val n _ 16 (by omega) (by omega) (by omega) (by omega),parts_val n _ 4 (by omega) (by omega) (by omega) (by omega),parts_val n _ 4 (by omega) (by omega) (by omega) (by omega),parts_val n _ 4 (by omega) (by omega) (by omega) (by omega)]
  simp only[obs]
  have a:=prt_range (x:=c.1) (e:=16) (by omega) (by omega)
  have b:=prt_range (x:=c.2.2.1.1) (e:=4) (by omega) (by omega)
  have d:=prt_range (x:=c.2.2.1.2.1) (e:=4) (by omega) (by omega)
  have f:=prt_range (x:=c.2.2.1.2.2) (e:=4) (by omega) (by omega)
  rw[w64 (x:=1+_) (by omega) (by omega),w64 (x:=1+_+_) (by omega) (by omega),w64 (x:=1+_+_+_) (by omega) (by omega),w64 (by omega) (by omega)]
  rfl
theorem r10_place_val (n:Nat) {c:Conf} (h:Rng c):r10_place (n+2) c=some (plc c):=by
  have h0:=h.raw;have h1:=h.n0;have h2:=h.n1;have h3:=h.n2
  rw[r10_place_eq,r10_parts_val n _ 16 (by omega) (by omega) (by omega) (by omega),r10_parts_val n _ 4 (by omega) (by omega) (by omega) (by omega),r10_parts_val n _ 4 (by omega) (by omega) (by omega) (by omega),r10_parts_val n _ 4 (by omega) (by omega) (by omega) (by omega)]
  simp only[obs]
  have a:=prt_range (x:=c.1) (e:=16) (by omega) (by omega)
  have b:=prt_range (x:=c.2.2.1.1) (e:=4) (by omega) (by omega)
  have d:=prt_range (x:=c.2.2.1.2.1) (e:=4) (by omega) (by omega)
  have f:=prt_range (x:=c.2.2.1.2.2) (e:=4) (by omega) (by omega)
  rw[w64 (x:=1+_) (by omega) (by omega),w64 (x:=1+_+_) (by omega) (by omega),w64 (x:=1+_+_+_) (by omega) (by omega),w64 (by omega) (by omega)]
  rfl
theorem in_int (n:Nat) (x a b:Int):conf_in_int (n+1) x a b=some (decide (a≤x∧x≤b)):=by
  rw[conf_in_int_eq]
  by_cases h1:a≤x<;>by_cases h2:x≤b<;>simp[h1,h2]
theorem in_int64 (n:Nat) (x a b:Int):conf_in_int64 (n+1) x a b=some (decide (a≤x∧x≤b)):=by
  rw[conf_in_int64_eq]
  by_cases h1:a≤x<;>by_cases h2:x≤b<;>simp[h1,h2]
theorem quo_w {a b:Int} (ha:1≤a∧a≤1099511627776) (hb:1≤b):IntKind.wrap .i64 (Int.tdiv a b)=a / b:=by
  rw[tdiv_nn (by omega)]
  have h2:0≤a / b:=Int.ediv_nonneg (by omega) (by omega)
  have h3:a / b≤a:=Int.ediv_le_self _ (by omega)
  rw[w64 (by omega) (by omega)]
theorem check_ok (n:Nat) {c:Conf} (h:OkC c):conf_Check (n+3) c=some 0:=by
  obtain ⟨hr,m1,d1,m2,d2,pl⟩:=h
  have hp:=place_val n hr
  obtain ⟨raw,cap,log,w0,w1,w2,n0,n1,n2⟩:=hr
  rw[conf_Check_eq]
  simp only[in_int,in_int64,obs,tfd,if_pos raw,if_pos cap,if_pos log,if_pos w0,if_pos w1,if_pos w2,if_pos n0,if_pos n1,if_pos n2]
  have z0:¬(c.2.1.1=0):=by omega
  have z1:¬(c.2.1.2.1=0):=by omega
  rw[quo_w w1 w0.1,quo_w w2 w1.1,tmod_nn (a:=c.2.1.2.1) (by omega),tmod_nn (a:=c.2.1.2.2) (by omega)]
  have l:¬(c.2.2.2.2≤plc c):=by omega
  simp only[if_neg z0,if_neg z1,if_pos m1,if_pos d1,if_pos m2,if_pos d2,tfn,tfd,hp,obs,if_neg l]
theorem check_no (n:Nat) {c:Conf} (h:¬OkC c):conf_Check (n+3) c=some 2:=by
  rw[conf_Check_eq]
  simp only[in_int,in_int64,obs,tfd,tfn]
  by_cases raw:1≤c.1∧c.1≤4096
  case neg=>rw[if_neg raw]
  rw[if_pos raw]
  by_cases cap:1≤c.2.2.2.1∧c.2.2.2.1≤65536
  case neg=>rw[if_neg cap]
  rw[if_pos cap]
  by_cases log:1≤c.2.2.2.2∧c.2.2.2.2≤8192
  case neg=>rw[if_neg log]
  rw[if_pos log]
  by_cases w0:1≤c.2.1.1∧c.2.1.1≤1099511627776
  case neg=>rw[if_neg w0]
  rw[if_pos w0]
  by_cases n0:1≤c.2.2.1.1∧c.2.2.1.1≤4096
  case neg=>rw[if_neg n0]
  rw[if_pos n0]
  by_cases w1:1≤c.2.1.2.1∧c.2.1.2.1≤1099511627776
  case neg=>rw[if_neg w1]
  rw[if_pos w1]
  by_cases n1:1≤c.2.2.1.2.1∧c.2.2.1.2.1≤4096
  case neg=>rw[if_neg n1]
  rw[if_pos n1]
  by_cases w2:1≤c.2.1.2.2∧c.2.1.2.2≤1099511627776
  case neg=>rw[if_neg w2]
  rw[if_pos w2]
  by_cases n2:1≤c.2.2.1.2.2∧c.2.2.1.2.2≤4096
  case neg=>rw[if_neg n2,if_neg n2]
  rw[if_pos n2]
  have hr:Rng c:=⟨raw,cap,log,w0,w1,w2,n0,n1,n2⟩
  have hp:=place_val n hr
  have z0:¬(c.2.1.1=0):=by omega
  have z1:¬(c.2.1.2.1=0):=by omega
  rw[quo_w w1 w0.1,quo_w w2 w1.1,tmod_nn (a:=c.2.1.2.1) (by omega),tmod_nn (a:=c.2.1.2.2) (by omega)]
  rw[if_neg z0,if_neg z0]
  by_cases m1:c.2.1.2.1 % c.2.1.1=0
  case neg=>rw[if_neg m1]
  rw[if_pos m1]
  by_cases d1:c.2.1.2.1 / c.2.1.1≤c.2.2.1.1
  case neg=>rw[if_neg d1,if_neg d1]
  rw[if_pos d1,if_neg z1,if_neg z1]
  by_cases m2:c.2.1.2.2 % c.2.1.2.1=0
  case neg=>rw[if_neg m2]
  rw[if_pos m2]
  by_cases d2:c.2.1.2.2 / c.2.1.2.1≤c.2.2.1.2.1
  case neg=>rw[if_neg d2,if_neg d2]
  rw[if_pos d2,if_pos d2,hp]
  simp only[obs]
  by_cases pl:c.2.2.2.2≤plc c
  · rw[if_pos pl]
  · exact absurd ⟨hr,m1,d1,m2,d2,by omega⟩ h
theorem r10_check_ok (n:Nat) {c:Conf} (h:OkC c):r10_Check (n+3) c=some 0:=by
  obtain ⟨hr,m1,d1,m2,d2,pl⟩:=h
  have hp:=r10_place_val n hr
  obtain ⟨raw,cap,log,w0,w1,w2,n0,n1,n2⟩:=hr
  rw[r10_Check_eq]
  rw[quo_w w1 w0.1,quo_w w2 w1.1,tmod_nn (a:=c.2.1.2.1) (by omega),tmod_nn (a:=c.2.1.2.2) (by omega)]
  have l:¬(c.2.2.2.2≤plc c):=by omega
  simp only[tfd,tfn,hp,obs]
  rw[if_neg (by omega),if_neg (by omega),if_neg (by omega),if_neg (by omega),if_neg (by omega),if_neg (by omega),if_neg (by omega),if_neg (by omega),if_neg (by omega),if_neg (by omega),if_neg (by omega),if_neg (by omega),if_neg (by omega),if_neg (by omega),if_neg (by omega)]
  rw[if_pos m1,if_neg (by omega),if_neg (by omega),if_neg (by omega),if_neg (by omega),if_neg (by omega),if_neg (by omega),if_neg (by omega)]
  rw[if_pos m2,if_neg (by omega),if_neg (by omega),if_neg l]
theorem r10_check_no (n:Nat) {c:Conf} (h:¬OkC c):r10_Check (n+3) c=some 2:=by
  rw[r10_Check_eq]
  simp only[tfd,tfn]
  by_cases raw:1≤c.1∧c.1≤4096
  case neg =>
    by_cases z:c.1<1
    · rw[if_pos z]
    · rw[if_neg z,if_pos (by omega)]
  rw[if_neg (by omega),if_neg (by omega)]
  by_cases cap:1≤c.2.2.2.1∧c.2.2.2.1≤65536
  case neg =>
    by_cases z:c.2.2.2.1<1
    · rw[if_pos z]
    · rw[if_neg z,if_pos (by omega)]
  rw[if_neg (by omega),if_neg (by omega)]
  by_cases log:1≤c.2.2.2.2∧c.2.2.2.2≤8192
  case neg =>
    by_cases z:c.2.2.2.2<1
    · rw[if_pos z]
    · rw[if_neg z,if_pos (by omega)]
  rw[if_neg (by omega),if_neg (by omega)]
  by_cases w0:1≤c.2.1.1∧c.2.1.1≤1099511627776
  case neg =>
    by_cases z:c.2.1.1<1
    · rw[if_pos z]
    · rw[if_neg z,if_pos (by omega)]
  rw[if_neg (by omega),if_neg (by omega)]
  by_cases n0:1≤c.2.2.1.1∧c.2.2.1.1≤4096
  case neg =>
    by_cases z:c.2.2.1.1<1
    · rw[if_pos z]
    · rw[if_neg z,if_pos (by omega)]
  rw[if_neg (by omega),if_neg (by omega)]
  by_cases w1:1≤c.2.1.2.1∧c.2.1.2.1≤1099511627776
  case neg =>
    by_cases z:c.2.1.2.1<1
    · rw[if_pos z]
    · rw[if_neg z,if_pos (by omega)]
  rw[if_neg (by omega),if_neg (by omega)]
  by_cases n1:1≤c.2.2.1.2.1∧c.2.2.1.2.1≤4096
  case neg =>
    by_cases z:c.2.2.1.2.1<1
    · rw[if_pos z]
    · rw[if_neg z,if_pos (by omega)]
  rw[if_neg (by omega),if_neg (by omega),if_neg (by omega)]
  rw[tmod_nn (a:=c.2.1.2.1) (by omega),quo_w w1 w0.1]
  by_cases m1:c.2.1.2.1 % c.2.1.1=0
  case neg=>rw[if_neg m1]
  rw[if_pos m1,if_neg (by omega)]
  by_cases d1:c.2.1.2.1 / c.2.1.1≤c.2.2.1.1
  case neg=>rw[if_pos (by omega)]
  rw[if_neg (by omega)]
  by_cases w2:1≤c.2.1.2.2∧c.2.1.2.2≤1099511627776
  case neg =>
    by_cases z:c.2.1.2.2<1
    · rw[if_pos z]
    · rw[if_neg z,if_pos (by omega)]
  rw[if_neg (by omega),if_neg (by omega)]
  by_cases n2:1≤c.2.2.1.2.2∧c.2.2.1.2.2≤4096
  case neg =>
    by_cases z:c.2.2.1.2.2<1
    · rw[if_pos z]
    · rw[if_neg z,if_pos (by omega)]
  rw[if_neg (by omega),if_neg (by omega),if_neg (by omega)]
  rw[tmod_nn (a:=c.2.1.2.2) (by omega),quo_w w2 w1.1]
  by_cases m2:c.2.1.2.2 % c.2.1.2.1=0
  case neg=>rw[if_neg m2]
  rw[if_pos m2,if_neg (by omega)]
  by_cases d2:c.2.1.2.2 / c.2.1.2.1≤c.2.2.1.2.1
  case neg=>rw[if_pos (by omega)]
  rw[if_neg (by omega)]
  have hr:Rng c:=⟨raw,cap,log,w0,w1,w2,n0,n1,n2⟩
  rw[r10_place_val n hr]
  simp only[obs]
  by_cases pl:c.2.2.2.2≤plc c
  · rw[if_pos pl]
  · exact absurd ⟨hr,m1,d1,m2,d2,by omega⟩ h
end Go.Proofs.YtjeabebacegikaaGreatDoor
namespace Go.Proofs.YtjeabebacegikaaGreatDoor
open Go.Flat Go.Plim
set_option linter.unusedVariables false
abbrev Trs:=List Slo×(List Slo×List Slo)
noncomputable instance (c:Conf):Decidable (OkC c):=Classical.propDecidable _
structure FoldOk (c:Conf) (s:Trs):Prop where
  cok:OkC c
  n0:(s.1.length:Int)=c.2.2.1.1
  n1:(s.2.1.length:Int)=c.2.2.1.2.1
  n2:(s.2.2.length:Int)=c.2.2.1.2.2
  t0:TierOk s.1 c.2.1.1
  t1:TierOk s.2.1 c.2.1.2.1
  t2:TierOk s.2.2 c.2.1.2.2
noncomputable instance (c:Conf) (s:Trs):Decidable (FoldOk c s):=Classical.propDecidable _
def mk1 (c:Conf) (s:Trs) (i:Int):Cel×Int:=tfold s.1 (i*(c.2.1.2.1 / c.2.1.1)) ((i+1)*(c.2.1.2.1 / c.2.1.1))
def mk2 (c:Conf) (s:Trs) (i:Int):Cel×Int:=tfold s.2.1 (i*(c.2.1.2.2 / c.2.1.2.1)) ((i+1)*(c.2.1.2.2 / c.2.1.2.1))
noncomputable def up1 (c:Conf) (s:Trs) (i j:Int):Trs :=
  if i*c.2.1.1 / c.2.1.2.1=j*c.2.1.1 / c.2.1.2.1 then s
  else if (mk1 c s (i*c.2.1.1 / c.2.1.2.1)).2=0∧FitsP (mk1 c s (i*c.2.1.1 / c.2.1.2.1)).1 c.2.1.2.1 (i*c.2.1.1 / c.2.1.2.1) then (s.1,(tput s.2.1 (i*c.2.1.1 / c.2.1.2.1) (mk1 c s (i*c.2.1.1 / c.2.1.2.1)).1,s.2.2))
  else s
noncomputable def up2 (c:Conf) (s:Trs) (i j:Int):Trs :=
  if i*c.2.1.1 / c.2.1.2.2=j*c.2.1.1 / c.2.1.2.2 then s
  else if (mk2 c s (i*c.2.1.1 / c.2.1.2.2)).2=0∧FitsP (mk2 c s (i*c.2.1.1 / c.2.1.2.2)).1 c.2.1.2.2 (i*c.2.1.1 / c.2.1.2.2) then (s.1,(s.2.1,tput s.2.2 (i*c.2.1.1 / c.2.1.2.2) (mk2 c s (i*c.2.1.1 / c.2.1.2.2)).1))
  else s
noncomputable def upw (c:Conf) (s:Trs) (i j:Int):Trs:=up2 c (up1 c s i j) i j
theorem up1_ok {c:Conf} {s:Trs} (h:FoldOk c s) (i j:Int):FoldOk c (up1 c s i j):=by
  unfold up1
  split
  · exact h
  · split
    · rename_i k
      exact ⟨h.cok,h.n0,by simpa [tput] using h.n1,h.n2,h.t0,tput_ok h.t1 k.2,h.t2⟩
    · exact h
theorem up2_ok {c:Conf} {s:Trs} (h:FoldOk c s) (i j:Int):FoldOk c (up2 c s i j):=by
  unfold up2
  split
  · exact h
  · split
    · rename_i k
      exact ⟨h.cok,h.n0,h.n1,by simpa [tput] using h.n2,h.t0,h.t1,tput_ok h.t2 k.2⟩
    · exact h
theorem upw_ok {c:Conf} {s:Trs} (h:FoldOk c s) (i j:Int):FoldOk c (upw c s i j):=up2_ok (up1_ok h i j) i j
theorem mul_div_le {a w m:Int} (hw:1≤w) (h:a≤m / w):a*w≤m :=
  Int.le_trans (Int.mul_le_mul_of_nonneg_right h (by omega)) (Int.ediv_mul_le m (by omega))
def Begins (w i:Int):Prop:=0≤i∧i≤35184372088831 / w
instance (w i:Int):Decidable (Begins w i):=by unfold Begins;infer_instance
theorem Begins.mul {w i:Int} (hw:1≤w) (h:Begins w i):0≤i*w∧i*w≤35184372088831:=⟨Int.mul_nonneg h.1 (by omega),mul_div_le hw h.2⟩
theorem div_begins {x w:Int} (hw:1≤w) (h:0≤x∧x≤35184372088831):Begins w (x / w):=⟨Int.ediv_nonneg h.1 (by omega),Int.ediv_le_ediv (by omega) h.2⟩
theorem begins_small {w i:Int} (hw:1≤w) (h:Begins w i):i≤35184372088831:=by
  have:=Int.ediv_le_self w (a:=35184372088831) (by decide)
  have:=h.2
  omega
theorem made_range {a b i:Int} (ha:1≤a∧a≤1099511627776) (hb:1≤b∧b≤1099511627776) (hm:b % a=0) (h:Begins b i) :
    1≤b / a∧b / a≤1099511627776∧b / a*a=b∧0≤i*(b / a)∧i*(b / a)≤35184372088831∧(i+1)*(b / a)=i*(b / a)+b / a:=by
  have e:b / a*a=b:=by have:=Int.mul_ediv_add_emod b a;rw[Int.mul_comm];omega
  have h0:0≤b / a:=Int.ediv_nonneg (by omega) (by omega)
  have h1:b / a≤b:=Int.ediv_le_self _ (by omega)
  have h2:1≤b / a:=by
    rcases Int.lt_or_le 0 (b / a) with k | k
    · omega
    · have:b / a=0:=by omega
      rw[this] at e;omega
  have hi:=h.mul hb.1
  have h3:0≤i*(b / a):=Int.mul_nonneg h.1 h0
  have h4:i*(b / a)≤i*b:=Int.mul_le_mul_of_nonneg_left h1 h.1
  exact ⟨h2,by omega,e,h3,by omega,by rw[Int.add_mul,Int.one_mul]⟩
end Go.Proofs.YtjeabebacegikaaGreatDoor
namespace Go.Proofs.YtjeabebacegikaaGreatDoor
open Go.Flat Go.Plim
set_option linter.unusedVariables false
set_option linter.unusedSimpArgs false
structure TrsW (s:Trs):Prop where
  a:∀x∈s.1,SloW x
  b:∀x∈s.2.1,SloW x
  c:∀x∈s.2.2,SloW x
theorem FoldOk.w {c:Conf} {s:Trs} (h:FoldOk c s):TrsW s:=⟨tierOk_w h.t0,tierOk_w h.t1,tierOk_w h.t2⟩
theorem conf_check (n:Nat) (c:Conf):conf_Check (n+3) c=some (if OkC c then 0 else 2):=by
  by_cases h:OkC c
  · rw[if_pos h,check_ok n h]
  · rw[if_neg h,check_no n h]
theorem r10_check (n:Nat) (c:Conf):r10_Check (n+3) c=some (if OkC c then 0 else 2):=by
  by_cases h:OkC c
  · rw[if_pos h,r10_check_ok n h]
  · rw[if_neg h,r10_check_no n h]
theorem fold_open_val (n:Nat) (c:Conf) {s:Trs} (hw:TrsW s):fold_open (n+8) c s=some (if FoldOk c s then (some (c,s),0) else (none,2)):=by
  rw[fold_open_eq,conf_check (n+4),tier_check n _ _ hw.a,tier_check n _ _ hw.b,tier_check n _ _ hw.c]
  simp only[obs,tfn,tfd]
  by_cases h0:OkC c
  case neg=>rw[if_neg (mt (z02 _).1 h0),if_neg h0,if_neg (fun k:FoldOk c s=>h0 k.cok)]
  rw[if_pos ((z02 _).2 h0)]
  by_cases h1:(s.1.length:Int)=c.2.2.1.1
  case neg=>rw[if_neg h1,if_neg (fun k:FoldOk c s=>h1 k.n0)]
  rw[if_pos h1]
  by_cases h2:TierOk s.1 c.2.1.1
  case neg=>rw[if_neg (mt (z02 _).1 h2),if_neg (fun k:FoldOk c s=>h2 k.t0)]
  rw[if_pos ((z02 _).2 h2)]
  by_cases h3:(s.2.1.length:Int)=c.2.2.1.2.1
  case neg=>rw[if_neg h3,if_neg (fun k:FoldOk c s=>h3 k.n1)]
  rw[if_pos h3]
  by_cases h4:TierOk s.2.1 c.2.1.2.1
  case neg=>rw[if_neg (mt (z02 _).1 h4),if_neg (fun k:FoldOk c s=>h4 k.t1)]
  rw[if_pos ((z02 _).2 h4)]
  by_cases h5:(s.2.2.length:Int)=c.2.2.1.2.2
  case neg=>rw[if_neg h5,if_neg (fun k:FoldOk c s=>h5 k.n2)]
  rw[if_pos h5]
  by_cases h6:TierOk s.2.2 c.2.1.2.2
  case neg=>rw[if_neg (mt (z02 _).1 h6),if_neg (fun k:FoldOk c s=>h6 k.t2)]
  rw[if_pos ((z02 _).2 h6),if_pos (⟨h0,h1,h3,h5,h2,h4,h6⟩:FoldOk c s)]
theorem fold_check (n:Nat) (c:Conf) {s:Trs} (hw:TrsW s):fold_Check (n+9) c s=some (if FoldOk c s then 0 else 2):=by
  rw[fold_Check_eq,fold_open_val n c hw]
  by_cases h:FoldOk c s
  · rw[if_pos h,if_pos h];rfl
  · rw[if_neg h,if_neg h];rfl
noncomputable def emp (c:Conf):Trs:=if OkC c then (List.replicate c.2.2.1.1.toNat s0,(List.replicate c.2.2.1.2.1.toNat s0,List.replicate c.2.2.1.2.2.toNat s0)) else ([],([],[]))
theorem fold_empty (n:Nat) (c:Conf):fold_Empty (n+4) c=some (emp c):=by
  rw[fold_Empty_eq,conf_check n]
  simp only[obs,tfn,tfd,tier_new]
  unfold emp
  by_cases h:OkC c
  · have h0:=h.rng.n0;have h1:=h.rng.n1;have h2:=h.rng.n2
    rw[if_pos ((z02 _).2 h),if_pos h,if_pos h0,if_pos h1,if_pos h2]
  · rw[if_neg (mt (z02 _).1 h),if_neg h]
theorem quo_top {w:Int} (hw:1≤w):IntKind.wrap .i64 (Int.tdiv 35184372088831 w)=35184372088831 / w:=by
  have:0≤(35184372088831:Int) / w:=Int.ediv_nonneg (by decide) (by omega)
  have:(35184372088831:Int) / w≤35184372088831:=Int.ediv_le_self _ (by decide)
  rw[tdiv_nn (by decide),w64 (by omega) (by omega)]
theorem begins_0 (n:Nat) (c:Conf) (s:Trs) (h:1≤c.2.1.1) (i:Int):fdst_begins (n+1) (c,s) 0 i=some (decide (Begins c.2.1.1 i),(c,s)):=by
  rw[fdst_begins_eq_0]
  simp only[tfd,if_neg (show ¬(c.2.1.1=0) by omega),quo_top h]
  by_cases h0:(0:Int)≤i
  · rw[if_pos h0]
    refine congrArg (fun b=>some (b,(c,s))) (decide_eq_decide.2 ⟨fun k=>⟨h0,k⟩,fun k=>k.2⟩)
  · rw[if_neg h0,decide_eq_false (fun k:Begins c.2.1.1 i=>h0 k.1)]
theorem allE_okc (l:List Cel):∀c,CellOk c→CellOk (allE c l).1:=by
  induction l with
  | nil=>intro c h;exact h
  | cons x l ih =>
    intro c h
    simp only[allE]
    split
    · rename_i k;exact ih _ (mrgE_ok k).2.2.2.2
    · exact ok_z0
theorem tfold_okc (l:List Slo) (i k:Int):CellOk (tfold l i k).1:=by
  unfold tfold
  split
  · exact ok_z0
  · exact allE_okc _ _ ok_z0
theorem made_wraps {a b i:Int} (ha:1≤a∧a≤1099511627776) (hb:1≤b∧b≤1099511627776) (hm:b % a=0) (h:Begins b i) :
    IntKind.wrap .i64 (i*(b / a))=i*(b / a)∧IntKind.wrap .i64 ((IntKind.wrap .i64 (i+1))*(b / a))=(i+1)*(b / a):=by
  obtain ⟨h1,h2,h3,h4,h5,h6⟩:=made_range ha hb hm h
  have:=begins_small hb.1 h
  have:=h.1
  rw[w64 (x:=i+1) (by omega) (by omega),h6,w64 (by omega) (by omega),w64 (by omega) (by omega)]
  exact ⟨rfl,rfl⟩
theorem fold_made1 (n:Nat) {c:Conf} {s:Trs} (h:FoldOk c s) {i:Int} (hb:Begins c.2.1.2.1 i):fdst_made (n+19) (c,s) 1 i=some ((mk1 c s i).1,((mk1 c s i).2,(c,s))):=by
  have hr:=h.cok.rng
  obtain ⟨e1,e2⟩:=made_wraps hr.w0 hr.w1 h.cok.m1 hb
  rw[fdst_made_eq_1]
  simp only[tfd,if_neg (show ¬(c.2.1.1=0) by have:=hr.w0;omega),quo_w hr.w1 hr.w0.1,e1,e2,tier_fold n h.t0,obs]
  rfl
theorem fold_made2 (n:Nat) {c:Conf} {s:Trs} (h:FoldOk c s) {i:Int} (hb:Begins c.2.1.2.2 i):fdst_made (n+19) (c,s) 2 i=some ((mk2 c s i).1,((mk2 c s i).2,(c,s))):=by
  have hr:=h.cok.rng
  obtain ⟨e1,e2⟩:=made_wraps hr.w1 hr.w2 h.cok.m2 hb
  rw[fdst_made_eq_2]
  simp only[tfd,if_neg (show ¬(c.2.1.2.1=0) by have:=hr.w1;omega),quo_w hr.w2 hr.w1.1,e1,e2,tier_fold n h.t1,obs]
  rfl
theorem fold_put0 (n:Nat) {c:Conf} {s:Trs} (h:FoldOk c s) (i:Int) {x:Cel} (hx:CelW x):fdst_put (n+9) (c,s) 0 i x=some (if FitsP x c.2.1.1 i then (0,(c,(tput s.1 i x,s.2))) else (2,(c,s))):=by
  rw[fdst_put_eq_0,tier_put n _ _ (tierOk_w h.t0) hx]
  simp only[obs,tfd]
  by_cases hf:FitsP x c.2.1.1 i
  · rw[if_pos (And.intro h.t0 hf),if_pos hf];rfl
  · have hn:¬(TierOk s.1 c.2.1.1∧FitsP x c.2.1.1 i):=fun k=>hf k.2
    rw[if_neg hn,if_neg hf];rfl
theorem fold_put1 (n:Nat) {c:Conf} {s:Trs} (h:FoldOk c s) (i:Int) {x:Cel} (hx:CelW x):fdst_put (n+9) (c,s) 1 i x=some (if FitsP x c.2.1.2.1 i then (0,(c,(s.1,(tput s.2.1 i x,s.2.2)))) else (2,(c,s))):=by
  rw[fdst_put_eq_1,tier_put n _ _ (tierOk_w h.t1) hx]
  simp only[obs,tfd]
  by_cases hf:FitsP x c.2.1.2.1 i
  · rw[if_pos (And.intro h.t1 hf),if_pos hf];rfl
  · have hn:¬(TierOk s.2.1 c.2.1.2.1∧FitsP x c.2.1.2.1 i):=fun k=>hf k.2
    rw[if_neg hn,if_neg hf];rfl
theorem fold_put2 (n:Nat) {c:Conf} {s:Trs} (h:FoldOk c s) (i:Int) {x:Cel} (hx:CelW x):fdst_put (n+9) (c,s) 2 i x=some (if FitsP x c.2.1.2.2 i then (0,(c,(s.1,(s.2.1,tput s.2.2 i x)))) else (2,(c,s))):=by
  rw[fdst_put_eq_2,tier_put n _ _ (tierOk_w h.t2) hx]
  simp only[obs,tfd]
  by_cases hf:FitsP x c.2.1.2.2 i
  · rw[if_pos (And.intro h.t2 hf),if_pos hf];rfl
  · have hn:¬(TierOk s.2.2 c.2.1.2.2∧FitsP x c.2.1.2.2 i):=fun k=>hf k.2
    rw[if_neg hn,if_neg hf];rfl
theorem over_wraps {a w i j:Int} (ha:1≤a) (hw:1≤w) (h0:0≤i) (hij:i≤j) (hj:Begins a j) :
    IntKind.wrap .i64 (Int.tdiv (IntKind.wrap .i64 (i*a)) w)=i*a / w∧Begins w (i*a / w):=by
  have hm:=hj.mul ha
  have h1:0≤i*a:=Int.mul_nonneg h0 (by omega)
  have h2:i*a≤j*a:=Int.mul_le_mul_of_nonneg_right hij (by omega)
  have h3:0≤i*a / w:=Int.ediv_nonneg h1 (by omega)
  have h4:i*a / w≤i*a:=Int.ediv_le_self _ h1
  rw[w64 (x:=i*a) (by omega) (by omega),tdiv_nn h1,w64 (by omega) (by omega)]
  exact ⟨rfl,div_begins hw ⟨h1,by omega⟩⟩
theorem stage2 (n:Nat) {c:Conf} {s:Trs} (h:FoldOk c s) {i j:Int} (h0:0≤i) (hij:i≤j) (hj:Begins c.2.1.1 j) :
    (tif (decide (IntKind.wrap .i64 (Int.tdiv (IntKind.wrap .i64 (i*c.2.1.1)) c.2.1.2.2)=IntKind.wrap .i64 (Int.tdiv (IntKind.wrap .i64 (j*c.2.1.1)) c.2.1.2.2))) (some (c,s))
      (obind (fdst_made (n+19) (c,s) (2:Int) (IntKind.wrap .i64 (Int.tdiv (IntKind.wrap .i64 (i*c.2.1.1)) c.2.1.2.2))) fun r0 =>
        tif (decide (r0.2.1=(0:Int))) (tif (decide ((0:Int)<r0.1.1)) (obind (fdst_put (n+19) r0.2.2 (2:Int) (IntKind.wrap .i64 (Int.tdiv (IntKind.wrap .i64 (i*c.2.1.1)) c.2.1.2.2)) r0.1) fun r1=>some r1.2) (some r0.2.2)) (some r0.2.2)))=some (c,up2 c s i j):=by
  have hr:=h.cok.rng
  have hjj:0≤j:=hj.1
  obtain ⟨e1,b1⟩:=over_wraps hr.w0.1 hr.w2.1 h0 hij hj
  obtain ⟨e2,_⟩:=over_wraps hr.w0.1 hr.w2.1 hjj (Int.le_refl j) hj
  rw[e1,e2,fold_made2 n h b1]
  simp only[obs,tfd]
  unfold up2
  by_cases c1:i*c.2.1.1 / c.2.1.2.2=j*c.2.1.1 / c.2.1.2.2
  · rw[if_pos c1,if_pos c1]
  rw[if_neg c1,if_neg c1]
  generalize i*c.2.1.1 / c.2.1.2.2=a at *
  have hok:CellOk (mk2 c s a).1:=tfold_okc _ _ _
  by_cases c2:(mk2 c s a).2=0
  · rw[if_pos c2]
    by_cases c3:0<(mk2 c s a).1.1
    · rw[if_pos c3,fold_put2 (n+10) h a (CelW.of hok)]
      by_cases c4:FitsP (mk2 c s a).1 c.2.1.2.2 a
      · rw[if_pos c4,if_pos (And.intro c2 c4)];rfl
      · rw[if_neg c4,if_neg (fun k=>c4 k.2)];rfl
    · rw[if_neg c3,if_neg (fun k=>c3 (by have:=k.2.n.n1;omega))]
  · rw[if_neg c2,if_neg (fun k=>c2 k.1)]
theorem fold_up (n:Nat) {c:Conf} {s:Trs} (h:FoldOk c s) {i j:Int} (h0:0≤i) (hij:i≤j) (hj:Begins c.2.1.1 j):fdst_up (n+20) (c,s) i j=some (c,upw c s i j):=by
  have hr:=h.cok.rng
  have hjj:0≤j:=hj.1
  obtain ⟨e1,b1⟩:=over_wraps hr.w0.1 hr.w1.1 h0 hij hj
  obtain ⟨e2,_⟩:=over_wraps hr.w0.1 hr.w1.1 hjj (Int.le_refl j) hj
  have z1:¬(c.2.1.2.1=0):=by have:=hr.w1;omega
  have z2:¬(c.2.1.2.2=0):=by have:=hr.w2;omega
  rw[fdst_up_eq]
  simp only[e1,e2,decide_eq_false z1,decide_eq_false z2,tff,fold_made1 n h b1,obs,stage2 n h h0 hij hj]
  unfold upw
  simp only[tfd]
  by_cases c1:i*c.2.1.1 / c.2.1.2.1=j*c.2.1.1 / c.2.1.2.1
  · have:up1 c s i j=s:=by unfold up1;rw[if_pos c1]
    rw[if_pos c1,this]
  rw[if_neg c1]
  have e3:up1 c s i j=if (mk1 c s (i*c.2.1.1 / c.2.1.2.1)).2=0∧FitsP (mk1 c s (i*c.2.1.1 / c.2.1.2.1)).1 c.2.1.2.1 (i*c.2.1.1 / c.2.1.2.1) then (s.1,(tput s.2.1 (i*c.2.1.1 / c.2.1.2.1) (mk1 c s (i*c.2.1.1 / c.2.1.2.1)).1,s.2.2)) else s:=by
    unfold up1;rw[if_neg c1]
  have hk:=up1_ok h i j
  rw[e3] at hk ⊢
  generalize i*c.2.1.1 / c.2.1.2.1=a at *
  have hok:CellOk (mk1 c s a).1:=tfold_okc _ _ _
  by_cases c2:(mk1 c s a).2=0
  · rw[if_pos c2]
    by_cases c3:0<(mk1 c s a).1.1
    · rw[if_pos c3,fold_put1 (n+10) h a (CelW.of hok)]
      by_cases c4:FitsP (mk1 c s a).1 c.2.1.2.1 a
      · rw[if_pos (And.intro c2 c4)] at hk ⊢
        rw[if_pos c4]
        have:=stage2 n hk h0 hij hj
        simp only[obs,if_neg z2]
        simp only[tfd] at this ⊢
        exact this
      · have hn1:¬((mk1 c s a).2=0∧FitsP (mk1 c s a).1 c.2.1.2.1 a):=fun k=>c4 k.2
        rw[if_neg hn1] at hk ⊢
        rw[if_neg c4]
        have:=stage2 n hk h0 hij hj
        simp only[obs,if_neg z2]
        simp only[tfd] at this ⊢
        exact this
    · rw[if_neg c3,if_neg (fun k=>c3 (by have:=k.2.n.n1;omega))]
  · rw[if_neg c2,if_neg (fun k=>c2 k.1)]
noncomputable def closeE (c:Conf) (s:Trs) (was:Slo) (j:Int):Trs×Int :=
  if FoldOk c s then
    (if was=s0 then (s,0)
     else if FitsP was.2 c.2.1.1 was.1 then
      (if was.1=j then (s,0) else if was.1≤j∧Begins c.2.1.1 j then (upw c (tput s.1 was.1 was.2,s.2) was.1 j,0) else (([],([],[])),1))
     else (([],([],[])),2))
  else (([],([],[])),2)
theorem foldOk_put0 {c:Conf} {s:Trs} (h:FoldOk c s) {i:Int} {x:Cel} (hf:FitsP x c.2.1.1 i):FoldOk c (tput s.1 i x,s.2) :=
  ⟨h.cok,by simpa [tput] using h.n0,h.n1,h.n2,tput_ok h.t0 hf,h.t1,h.t2⟩
theorem fold_close (n:Nat) (c:Conf) {s:Trs} (hw:TrsW s) {was:Slo} (hx:SloW was) (j:Int):fold_Close (n+21) c s was j=some (closeE c s was j):=by
  rw[fold_Close_eq,fold_open_val (n+12) c hw]
  unfold closeE
  by_cases h:FoldOk c s
  case neg=>rw[if_neg h,if_neg h];rfl
  have hr:=h.cok.rng
  rw[if_pos h,if_pos h]
  simp only[obs,oelim_some,decide_true,Bool.not_true,tff,sloEq0,tfn,tfd,if_true,tier_fits (n+14) hx.c]
  by_cases c1:was=s0
  · rw[if_pos c1,if_pos c1,if_pos c1]
  rw[if_neg c1,if_neg c1,if_neg c1]
  by_cases c2:FitsP was.2 c.2.1.1 was.1
  case neg=>rw[if_neg c2,if_neg c2]
  rw[if_pos c2,if_pos c2]
  by_cases c3:was.1=j
  · rw[if_pos c3,if_pos c3]
  rw[if_neg c3,if_neg c3]
  by_cases c4:j<was.1
  · rw[if_pos c4,if_neg (fun q=>by omega)]
  rw[if_neg c4,begins_0 (n+19) c s hr.w0.1 j]
  simp only[obs,tfn,tfd]
  by_cases hb:Begins c.2.1.1 j
  · have hi:=c2.i0
    rw[if_pos hb,if_pos ⟨by omega,hb⟩,fold_put0 (n+11) h was.1 hx.c,if_pos c2]
    simp only[obs,if_true,fold_up n (foldOk_put0 h c2) hi.1 (show was.1≤j by omega) hb]
  · rw[if_neg hb,if_neg (fun q=>hb q.2)]
theorem FoldOk.lens {c:Conf} {s:Trs} (h:FoldOk c s):s.1.length≤1000000∧s.2.1.length≤1000000∧s.2.2.length≤1000000:=by
  have:=h.t0.l1;have:=h.t1.l1;have:=h.t2.l1;omega
abbrev Ser:=List Lab×(Int×(Rw×(Trs×Slo)))
structure SerW (s:Ser):Prop where
  last:I64 s.2.1
  raw:RawW s.2.2.1
  trs:TrsW s.2.2.2.1
  opn:SloW s.2.2.2.2
def NoBehind (l:List Slo) (i:Int):Prop:=∀s∈l,0<s.2.1→s.1<i
noncomputable instance (l i):Decidable (NoBehind l i):=Classical.propDecidable _
structure Fresh (s:Ser):Prop where
  raw:s.2.2.1.2.2=[]
  opn:s.2.2.2.2=s0
  b0:NoBehind s.2.2.2.1.1 0
  b1:NoBehind s.2.2.2.1.2.1 0
  b2:NoBehind s.2.2.2.1.2.2 0
structure EndsP (c:Conf) (s:Ser):Prop where
  last:∃e,s.2.2.1.2.2.getLast? = some e∧e.1=s.2.1
  ol:s.2.2.2.2.2.2.2.1.1=s.2.1
  fit:FitsP s.2.2.2.2.2 c.2.1.1 s.2.2.2.2.1
  b0:NoBehind s.2.2.2.1.1 (s.2.1 / c.2.1.1)
  b1:NoBehind s.2.2.2.1.2.1 (s.2.1 / c.2.1.2.1)
  b2:NoBehind s.2.2.2.1.2.2 (s.2.1 / c.2.1.2.2)
structure SerOk (c:Conf) (s:Ser):Prop where
  fold:FoldOk c s.2.2.2.1
  lab:LabOk s.1
  raw:RawOk s.2.2.1 c.1
  st:(s.2.1 = -1∧Fresh s)∨(s.2.1 ≠ -1∧EndsP c s)
noncomputable instance (s):Decidable (Fresh s):=Classical.propDecidable _
noncomputable instance (c s):Decidable (EndsP c s):=Classical.propDecidable _
noncomputable instance (c s):Decidable (SerOk c s):=Classical.propDecidable _
theorem contains_slot (n:Nat) {del:TSlot×Unit→Option Bool} {p:Slo→Bool} (hd:∀x,del (x,())=some (p x)) (l:List Slo) (hL:l.length≤1000000):sl_ContainsFunc_Slot (n+2) l del=some (l.any p):=by
  rw[sl_ContainsFunc_Slot_eq,sl_IndexFunc_Slot_eq]
  rcases index_l hd n l hL l [] loopFuel 0 l.length rfl rfl rfl (by unfold loopFuel;omega) with ⟨h1,h2⟩ | ⟨A,x,B,h1,h2,h3,h4⟩
  · rw[h1]
    have:l.any p=false:=by rw[List.any_eq_false];intro x hx;simp[h2 x hx]
    rw[this];rfl
  · rw[h4]
    have:l.any p=true:=List.any_eq_true.2 ⟨x,by rw[h1];simp,h3⟩
    simp only[obs,selim_inr,this,Int.zero_add]
    rw[decide_eq_true (by omega)]
theorem series_behind_val (n:Nat) (l:List Slo) (i:Int) (hL:l.length≤1000000):series_behind (n+3) l i=some (!decide (NoBehind l i)):=by
  rw[series_behind_eq,contains_slot (p:=fun s=>decide (0<s.2.1∧i≤s.1)) n (fun x=>by
    show series_behind_1 (n+1+1) x i=_
    rw[series_behind_1_eq]
    by_cases h1:0<x.2.1<;>by_cases h2:i≤x.1<;>simp[h1,h2]) l hL]
  simp only[obs]
  refine congrArg some ?_
  by_cases h:NoBehind l i
  · rw[decide_eq_true h]
    rw[List.any_eq_false.2]
    · rfl
    · intro x hx k
      have:=of_decide_eq_true k
      have:=h x hx this.1
      omega
  · rw[decide_eq_false h]
    have:∃x∈l,0<x.2.1∧i≤x.1:=Classical.byContradiction fun k=>h fun x hx hc=>by
      rcases Int.lt_or_le x.1 i with q | q
      · exact q
      · exact absurd ⟨x,hx,hc,q⟩ k
    obtain ⟨x,hx,hq⟩:=this
    rw[List.any_eq_true.2 ⟨x,hx,decide_eq_true hq⟩]
    rfl
theorem kept_fresh (n:Nat) (c:Conf) {s:Ser} (hf:FoldOk c s.2.2.2.1):srk_fresh (n+4) (c,s)=some (decide (Fresh s)):=by
  obtain ⟨l0,l1,l2⟩:=hf.lens
  rw[srk_fresh_eq,sloEq0,series_behind_val n _ _ l0,series_behind_val n _ _ l1,series_behind_val n _ _ l2]
  simp only[obs,Bool.not_not,tfd]
  by_cases h1:(s.2.2.1.2.2.length:Int)=0
  case neg=>rw[if_neg h1,decide_eq_false (fun k:Fresh s=>h1 (by rw[k.raw];rfl))]
  rw[if_pos h1]
  by_cases h2:s.2.2.2.2=s0
  case neg=>rw[if_neg h2,decide_eq_false (fun k:Fresh s=>h2 k.opn)]
  rw[if_pos h2]
  by_cases h3:NoBehind s.2.2.2.1.1 0
  case neg=>rw[if_neg h3,decide_eq_false (fun k:Fresh s=>h3 k.b0)]
  rw[if_pos h3]
  by_cases h4:NoBehind s.2.2.2.1.2.1 0
  case neg=>rw[if_neg h4,decide_eq_false (fun k:Fresh s=>h4 k.b1)]
  rw[if_pos h4]
  refine congrArg some (decide_eq_decide.2 ⟨fun k=>⟨List.length_eq_zero_iff.1 (by omega),h2,h3,h4,k⟩,fun k=>k.b2⟩)
theorem last_ok {c:Conf} {s:Ser} (hr:RawOk s.2.2.1 c.1) {e:Ev} (he:s.2.2.1.2.2.getLast? = some e):EvOk e:=hr.f.ok e (List.mem_of_getLast? he)
theorem kept_ends (n:Nat) (c:Conf) {s:Ser} (hf:FoldOk c s.2.2.2.1) (hr:RawOk s.2.2.1 c.1) (hw:SerW s):srk_ends (n+7) (c,s)=some (decide (EndsP c s)):=by
  obtain ⟨l0,l1,l2⟩:=hf.lens
  have hg:=hf.cok.rng
  have hlen:=hr.len;have hm1:=hr.m1
  rw[srk_ends_eq,raw_last (n+5) s.2.2.1 (by omega)]
  cases hl:s.2.2.1.2.2.getLast? with
  | none =>
    simp only[obs]
    rw[show (decide ((3:Int)=0))=false from rfl,tff,decide_eq_false]
    intro k
    obtain ⟨e,he,_⟩:=k.last
    rw[hl] at he;cases he
  | some e =>
    have heo:=last_ok hr hl
    simp only[obs,decide_true,tft,tfd,if_true]
    by_cases h1:e.1=s.2.1
    case neg =>
      rw[if_neg h1,decide_eq_false]
      intro k
      obtain ⟨e',he,hq⟩:=k.last
      rw[hl] at he;injection he with he;subst he;exact h1 hq
    rw[if_pos h1]
    by_cases h2:s.2.2.2.2.2.2.2.1.1=s.2.1
    case neg=>rw[if_neg h2,decide_eq_false (fun k:EndsP c s=>h2 k.ol)]
    have q0:=quo_ev heo hg.w0.1;have q1:=quo_ev heo hg.w1.1;have q2:=quo_ev heo hg.w2.1
    rw[h1] at q0 q1 q2
    rw[if_pos h2,tier_fits n hw.opn.c]
    simp only[obs,tfd,q0,q1,q2,series_behind_val (n+3) _ _ l0,series_behind_val (n+3) _ _ l1,series_behind_val (n+3) _ _ l2,Bool.not_not,if_neg (show ¬(c.2.1.1=0) by have:=hg.w0;omega),if_neg (show ¬(c.2.1.2.1=0) by have:=hg.w1;omega),if_neg (show ¬(c.2.1.2.2=0) by have:=hg.w2;omega)]
    by_cases h3:FitsP s.2.2.2.2.2 c.2.1.1 s.2.2.2.2.1
    case neg=>rw[if_neg h3,decide_eq_false (fun k:EndsP c s=>h3 k.fit)]
    rw[if_pos h3]
    by_cases h4:NoBehind s.2.2.2.1.1 (s.2.1 / c.2.1.1)
    case neg=>rw[if_neg h4,decide_eq_false (fun k:EndsP c s=>h4 k.b0)]
    rw[if_pos h4]
    by_cases h5:NoBehind s.2.2.2.1.2.1 (s.2.1 / c.2.1.2.1)
    case neg=>rw[if_neg h5,decide_eq_false (fun k:EndsP c s=>h5 k.b1)]
    rw[if_pos h5]
    refine congrArg some (decide_eq_decide.2 ⟨fun k=>⟨⟨e,hl,h1⟩,h2,h3,h4,h5,k⟩,fun k=>k.b2⟩)
theorem z08 (p:Prop) [Decidable p]:((if p then (0:Int) else 8)=0)↔p:=by by_cases h:p<;>simp[h]
theorem series_open_val (n:Nat) (c:Conf) {s:Ser} (hw:SerW s):series_open (n+10) c s=some (if SerOk c s then (some (c,s),0) else (none,2)):=by
  rw[series_open_eq,fold_check n c hw.trs,label_check (n+3),raw_check (n+4) _ _ hw.raw]
  simp only[obs,tfn,tfd]
  by_cases h1:FoldOk c s.2.2.2.1
  case neg=>rw[if_neg (mt (z02 _).1 h1),if_neg (fun k:SerOk c s=>h1 k.fold)]
  by_cases h2:LabOk s.1
  case neg=>rw[if_pos ((z02 _).2 h1),if_neg (mt (z08 _).1 h2),if_neg (fun k:SerOk c s=>h2 k.lab)]
  by_cases h3:RawOk s.2.2.1 c.1
  case neg=>rw[if_pos ((z02 _).2 h1),if_pos ((z08 _).2 h2),if_neg (mt (z02 _).1 h3),if_neg (fun k:SerOk c s=>h3 k.raw)]
  rw[if_pos ((z02 _).2 h1),if_pos ((z08 _).2 h2),if_pos ((z02 _).2 h3),kept_fresh (n+5) c h1,kept_ends (n+2) c h1 h3 hw]
  simp only[obs,tfd]
  by_cases h4:s.2.1 = -1
  · rw[if_pos h4]
    by_cases h5:Fresh s
    · rw[if_pos h5,if_pos (⟨h1,h2,h3,.inl ⟨h4,h5⟩⟩:SerOk c s)]
    · rw[if_neg h5,if_pos h4,if_neg (fun k:SerOk c s=>by
        rcases k.st with q | q
        · exact h5 q.2
        · exact q.1 h4)]
  · rw[if_neg h4,if_neg h4]
    by_cases h5:EndsP c s
    · rw[if_pos h5,if_pos (⟨h1,h2,h3,.inr ⟨h4,h5⟩⟩:SerOk c s)]
    · rw[if_neg h5,if_neg (fun k:SerOk c s=>by
        rcases k.st with q | q
        · exact h4 q.1
        · exact h5 q.2)]
theorem noBehind_iff {l:List Slo} {w:Int} (h:TierOk l w) (i:Int):NoBehind l i↔∀s∈tall l,s.1<i:=by
  constructor
  · intro k s hs
    have:=(tall_N h hs).n1
    exact k s (mem_tall.1 hs).1 (by omega)
  · intro k s hs hc
    exact k s (mem_tall.2 ⟨hs,fun e=>by rw[e] at hc;simp[s0,z0] at hc⟩)
theorem noBehind0 {l:List Slo} {w:Int} (h:TierOk l w):NoBehind l 0↔tall l=[]:=by
  rw[noBehind_iff h]
  constructor
  · intro k
    by_cases e:tall l=[]
    · exact e
    · obtain ⟨s,hs⟩:=List.exists_mem_of_ne_nil _ e
      have:=(tall_fits h hs).1.i0
      have:=k s hs
      omega
  · intro e s hs;rw[e] at hs;cases hs
theorem nn {α:Type} {a b:α} (h:a=b):¬(a≠b):=fun k=>k h
def ser0:Ser:=([],(0,(r0w,(([],([],[])),s0))))
def TurnS (s:Ser) (i:Int):Prop:=s.2.2.2.2≠s0∧s.2.2.2.2.1≠i
noncomputable instance (s i):Decidable (TurnS s i):=Classical.propDecidable _
noncomputable def turned (c:Conf) (s:Ser) (i:Int):(Trs×Slo)×Int :=
  if TurnS s i then (if (closeE c s.2.2.2.1 s.2.2.2.2 i).2=0 then (((closeE c s.2.2.2.1 s.2.2.2.2 i).1,s0),0) else ((s.2.2.2.1,s.2.2.2.2),(closeE c s.2.2.2.1 s.2.2.2.2 i).2)) else ((s.2.2.2.1,s.2.2.2.2),0)
noncomputable def putE (c:Conf) (s:Ser) (e:Ev):Ser×Int :=
  if SerOk c s∧EvOk e then
    (if e.1≤s.2.1 then (ser0,9)
     else if (turned c s (e.1 / c.2.1.1)).2≠0 then (ser0,(turned c s (e.1 / c.2.1.1)).2)
     else if (rawPut s.2.2.1 c.1 e).2≠0 then (ser0,(rawPut s.2.2.1 c.1 e).2)
     else if (mrgE (turned c s (e.1 / c.2.1.1)).1.2.2 (evCell e)).2≠0 then (ser0,(mrgE (turned c s (e.1 / c.2.1.1)).1.2.2 (evCell e)).2)
     else ((s.1,(e.1,((rawPut s.2.2.1 c.1 e).1,((turned c s (e.1 / c.2.1.1)).1.1,(e.1 / c.2.1.1,(mrgE (turned c s (e.1 / c.2.1.1)).1.2.2 (evCell e)).1))))),0))
  else (ser0,2)
theorem open_zero {c:Conf} {s:Ser} (h:SerOk c s):s.2.2.2.2.2.1=0↔s.2.2.2.2=s0:=by
  constructor
  · intro k
    rcases h.st with q | q
    · exact q.2.opn
    · have:=q.2.fit.n.n1;omega
  · intro k;rw[k];rfl
theorem turned_w {c:Conf} {s:Ser} (hw:SerW s) (i:Int):SloW (turned c s i).1.2:=by
  unfold turned
  split
  · split
    · exact slow_s0
    · exact hw.opn
  · exact hw.opn
theorem kept_turn (n:Nat) (c:Conf) {s:Ser} (h:SerOk c s) (hw:SerW s) (i:Int):srk_turn (n+22) (c,s) i=some ((turned c s i).2,(c,(s.1,(s.2.1,(s.2.2.1,(turned c s i).1))))):=by
  rw[srk_turn_eq]
  simp only[tfd,fold_close n c hw.trs hw.opn i,obs]
  unfold turned
  by_cases h1:s.2.2.2.2.1=i
  · rw[if_pos h1,if_neg (fun k:TurnS s i=>k.2 h1)]
  rw[if_neg h1]
  by_cases h2:s.2.2.2.2.2.1=0
  · rw[if_pos h2,if_neg (fun k:TurnS s i=>k.1 ((open_zero h).1 h2))]
  have ht:TurnS s i:=⟨fun k=>h2 ((open_zero h).2 k),h1⟩
  rw[if_neg h2,if_pos ht]
  by_cases h3:(closeE c s.2.2.2.1 s.2.2.2.2 i).2=0
  · rw[if_pos h3,if_pos h3,h3];rfl
  · rw[if_neg h3,if_neg h3]
theorem series_put (n:Nat) (c:Conf) {s:Ser} (hw:SerW s) {e:Ev} (he:EvW e):series_Put (n+23) c s e=some (putE c s e):=by
  rw[series_Put_eq,series_open_val (n+12) c hw,event_check _ he]
  unfold putE
  by_cases h1:SerOk c s
  case neg=>rw[if_neg h1,if_neg (fun k:SerOk c s∧EvOk e=>h1 k.1)];rfl
  rw[if_pos h1]
  have hg:=h1.fold.cok.rng
  simp only[obs,oelim_some,decide_true,Bool.not_true,tff,tfn,tfd]
  by_cases h2:EvOk e
  case neg=>rw[if_neg (mt (z02 _).1 h2),if_neg (fun k:SerOk c s∧EvOk e=>h2 k.2)];rfl
  rw[if_pos ((z02 _).2 h2),if_pos (And.intro h1 h2)]
  by_cases h3:e.1≤s.2.1
  · rw[if_pos h3,if_pos h3];rfl
  rw[if_neg h3,if_neg h3,if_neg (show ¬(c.2.1.1=0) by have:=hg.w0;omega),quo_ev h2 hg.w0.1,kept_turn n c h1 hw]
  generalize ht:turned c s (e.1 / c.2.1.1)=t
  have htw:=turned_w (c:=c) hw (e.1 / c.2.1.1)
  rw[ht] at htw
  simp only[obs]
  by_cases h4:t.2=0
  case neg=>rw[if_neg h4,if_pos h4];rfl
  rw[if_pos h4,if_neg (nn h4),srk_add_eq,raw_put (n+15) c.1 hw.raw he,cell_add (n+14) htw.c he,if_pos h2]
  simp only[obs,tfn,tfd]
  by_cases h5:(rawPut s.2.2.1 c.1 e).2=0
  case neg =>
    rw[if_neg h5,if_pos h5]
    simp only[obs]
    rw[if_neg h5];rfl
  rw[if_pos h5,if_neg (nn h5)]
  simp only[obs]
  by_cases h6:(mrgE t.1.2.2 (evCell e)).2=0
  · rw[if_pos h6,if_neg (nn h6)];simp only[if_true]
  · rw[if_neg h6,if_pos h6];rfl
end Go.Proofs.YtjeabebacegikaaGreatDoor

namespace Go.Plim
set_option linter.unusedVariables false
def below (w:Int) (l:List Ev) (t:Int):List Ev:=l.filter fun e=>decide (e.1 / w<t / w)
theorem below_foll {w:Int} {l:List Ev} (h:Foll l) (t:Int):Foll (below w l t):=h.sub List.filter_sublist
theorem below_all {w:Int} {l:List Ev} {t:Int} (h:∀e∈l,e.1 / w<t / w):below w l t=l:=by
  unfold below
  exact List.filter_eq_self.2 fun e he=>by simpa using h e he
theorem below_congr {w:Int} {l:List Ev} {t u:Int} (h:t / w=u / w):below w l t=below w l u:=by unfold below;rw[h]
theorem below_snoc {w:Int} {l:List Ev} (e:Ev):below w (l++[e]) e.1=below w l e.1:=by
  unfold below
  rw[List.filter_append]
  simp
structure EndsAt (l:List Ev) (t:Int):Prop where
  foll:Foll l
  le:∀e∈l,e.1≤t
  last:∃e∈l,e.1=t
theorem EndsAt.wle {l:List Ev} {t:Int} (h:EndsAt l t) {w:Int} (hw:1≤w):∀e∈l,e.1 / w≤t / w:=fun e he=>Int.ediv_le_ediv (by omega) (h.le e he)
theorem ends_split {l:List Ev} {t:Int} (h:EndsAt l t) {w:Int} (hw:1≤w):l=below w l t++win w l (t / w):=by
  have key:∀(m:List Ev),(∀e∈m,e.1 / w≤t / w)→m.Pairwise (fun a b=>a.1 / w≤b.1 / w)→m=below w m t++win w m (t / w):=by
    intro m
    induction m with
    | nil=>intro _ _;rfl
    | cons x m ih =>
      intro h1 h2
      rw[List.pairwise_cons] at h2
      have ih':=ih (fun e he=>h1 e (by simp[he])) h2.2
      have hx:=h1 x (by simp)
      unfold below win at *
      by_cases c:x.1 / w<t / w
      · rw[List.filter_cons_of_pos (by simpa using c),List.filter_cons_of_neg (by simp;omega),List.cons_append,←ih']
      · have e0:m.filter (fun e=>decide (e.1 / w<t / w))=[]:=by
          rw[List.filter_eq_nil_iff]
          intro y hy
          have:=h2.1 y hy
          simp;omega
        rw[List.filter_cons_of_neg (by simpa using c),List.filter_cons_of_pos (by simp;omega),e0,List.nil_append]
        rw[e0,List.nil_append] at ih'
        rw[←ih']
  exact key l (h.wle hw) (foll_wd hw h.foll)
theorem tput_tput (t:List Slo) (i:Int) (a b:Cel):tput (tput t i a) i b=tput t i b:=by
  unfold tput
  rw[List.length_set,List.set_set]
theorem tierInv_block {t:List Slo} {w a:Int} {l:List Ev} (h:TierInv t w l):∀(n:Nat) (B:List Ev),B.length=n+1→Foll (l++B)→(∀e∈B,e.1 / w=a) →
    FitsP (cellOf (win w (l++B) a)) w a∧TierInv (tput t a (cellOf (win w (l++B) a))) w (l++B):=by
  intro n
  induction n with
  | zero =>
    intro B hB hf ha
    match B,hB with
    | [e],_ =>
      have he:=ha e (by simp)
      have:=tierInv_put h hf
      rw[he] at this
      rw[win_snoc,if_pos he]
      exact this
  | succ n ih =>
    intro B hB hf ha
    rcases List.eq_nil_or_concat B with rfl | ⟨B',e,rfl⟩
    · cases hB
    rw[List.concat_eq_append] at *
    have he:=ha e (by simp)
    have hf':Foll (l++B'++[e]):=by rw[List.append_assoc];exact hf
    obtain ⟨h1,h2⟩:=ih B' (by simp at hB;exact hB) (foll_append.1 hf').1 (fun x hx=>ha x (by simp[hx]))
    have:=tierInv_put h2 hf'
    rw[he,tput_tput,List.append_assoc] at this
    rw[←List.append_assoc,win_snoc,if_pos he]
    rw[List.append_assoc]
    exact this
theorem tierInv_close {s:List Slo} {w:Int} {l:List Ev} {t:Int} (he:EndsAt l t) (h:TierInv s w (below w l t)):FitsP (cellOf (win w l (t / w))) w (t / w)∧TierInv (tput s (t / w) (cellOf (win w l (t / w)))) w l:=by
  have hw:=h.ok.w0
  have hs:=ends_split he hw
  obtain ⟨e,hel,het⟩:=he.last
  have hne:win w l (t / w)≠[]:=fun k=>by
    have:e∈win w l (t / w):=mem_win.2 ⟨hel,by rw[het]⟩
    rw[k] at this;cases this
  have hlen:(win w l (t / w)).length=((win w l (t / w)).length-1)+1:=by have:=List.length_pos_iff.2 hne;omega
  have:=tierInv_block h _ (win w l (t / w)) hlen (by rw[←hs];exact he.foll) (fun x hx=>(mem_win.1 hx).2)
  rw[←hs] at this
  exact this
theorem edvm {t a b:Int} (ha:1≤a) (hb:1≤b) (hm:b % a=0):t / a*a / b=t / b∧t / a / (b / a)=t / b:=by
  have e:a*(b / a)=b:=by have:=Int.mul_ediv_add_emod b a;omega
  have h1:t / a / (b / a)=t / b:=by rw[Int.ediv_ediv_of_nonneg (by omega),e]
  refine ⟨?_,h1⟩
  rw[←h1]
  conv=>lhs;rw[←e,Int.mul_comm (t / a) a]
  exact Int.mul_ediv_mul_of_pos _ _ (by omega)
theorem win_rng_up {l:List Ev} {a b i:Int} (ha:1≤a) (hb:1≤b) (hm:b % a=0):rng a l (i*(b / a)) ((i+1)*(b / a))=win b l i:=by
  unfold rng win
  apply List.filter_congr
  intro e _
  have h1:=(edvm (t:=e.1) ha hb hm).2
  have hq:1≤b / a:=by
    have e:a*(b / a)=b:=by have:=Int.mul_ediv_add_emod b a;omega
    rcases Int.lt_or_le 0 (b / a) with k | k
    · omega
    · have:a*(b / a)≤0:=Int.mul_nonpos_of_nonneg_of_nonpos (by omega) k
      omega
  refine decide_eq_decide.2 ?_
  rw[←h1]
  generalize e.1 / a=x at *
  generalize b / a=q at *
  constructor
  · rintro ⟨h2,h3⟩
    have:=Int.le_ediv_of_mul_le (show 0<q by omega) h2
    have:=Int.ediv_lt_of_lt_mul (show 0<q by omega) h3
    omega
  · rintro rfl
    exact ⟨Int.ediv_mul_le _ (by omega),Int.lt_ediv_add_one_mul_self x (by omega)⟩
end Go.Plim
namespace Go.Proofs.YtjeabebacegikaaGreatDoor
open Go.Flat Go.Plim
structure FInv (c:Conf) (s:Trs) (l:List Ev) (t:Int):Prop where
  ok:FoldOk c s
  i0:TierInv s.1 c.2.1.1 (below c.2.1.1 l t)
  i1:TierInv s.2.1 c.2.1.2.1 (below c.2.1.2.1 l t)
  i2:TierInv s.2.2 c.2.1.2.2 (below c.2.1.2.2 l t)
theorem OkC.m02 {c:Conf} (h:OkC c):c.2.1.2.2 % c.2.1.1=0:=by
  have h1:=Int.dvd_of_emod_eq_zero h.m1
  have h2:=Int.dvd_of_emod_eq_zero h.m2
  exact Int.emod_eq_zero_of_dvd (Int.dvd_trans h1 h2)
theorem same_win {c:Conf} (h:OkC c) {t u:Int} (e:t / c.2.1.1=u / c.2.1.1):t / c.2.1.2.1=u / c.2.1.2.1∧t / c.2.1.2.2=u / c.2.1.2.2:=by
  have hr:=h.rng
  rw[←(edvm (t:=t) hr.w0.1 hr.w1.1 h.m1).1,←(edvm (t:=u) hr.w0.1 hr.w1.1 h.m1).1,←(edvm (t:=t) hr.w0.1 hr.w2.1 h.m02).1,←(edvm (t:=u) hr.w0.1 hr.w2.1 h.m02).1,e]
  exact ⟨rfl,rfl⟩
theorem same_win1 {c:Conf} (h:OkC c) {t u:Int} (e:t / c.2.1.2.1=u / c.2.1.2.1):t / c.2.1.2.2=u / c.2.1.2.2:=by
  have hr:=h.rng
  rw[←(edvm (t:=t) hr.w1.1 hr.w2.1 h.m2).1,←(edvm (t:=u) hr.w1.1 hr.w2.1 h.m2).1,e]
theorem finv_stay {c:Conf} {s:Trs} {l:List Ev} {t:Int} (h:FInv c s l t) {e:Ev} (hw:t / c.2.1.1=e.1 / c.2.1.1):FInv c s (l++[e]) e.1:=by
  obtain ⟨h1,h2⟩:=same_win h.ok.cok hw
  refine ⟨h.ok,?_,?_,?_⟩
  · rw[below_snoc,←below_congr hw];exact h.i0
  · rw[below_snoc,←below_congr h1];exact h.i1
  · rw[below_snoc,←below_congr h2];exact h.i2
theorem finv_snoc {c:Conf} {s:Trs} {l:List Ev} {e:Ev} (h:FInv c s l e.1):FInv c s (l++[e]) e.1:=by
  refine ⟨h.ok,?_,?_,?_⟩
  · rw[below_snoc];exact h.i0
  · rw[below_snoc];exact h.i1
  · rw[below_snoc];exact h.i2
theorem win_small {w:Int} {l:List Ev} {t f n:Int} (he:EndsAt l t) (hw:1≤w) {i:Int} (h1:t / w<i+f) (h2:f≤n):∀e∈l,e.1 / w<i+n:=fun e hel=>by
  have:=he.wle hw e hel;omega
theorem finv_close {c:Conf} {s:Trs} {l:List Ev} {t:Int} (h:FInv c s l t) (he:EndsAt l t) {u:Int} (hu:t<u) (hw:t / c.2.1.1≠u / c.2.1.1) :
    FitsP (cellOf (win c.2.1.1 l (t / c.2.1.1))) c.2.1.1 (t / c.2.1.1) ∧
    FInv c (upw c (tput s.1 (t / c.2.1.1) (cellOf (win c.2.1.1 l (t / c.2.1.1))),s.2) (t / c.2.1.1) (u / c.2.1.1)) l u:=by
  have hok:=h.ok
  have hc:=hok.cok
  have hr:=hc.rng
  obtain ⟨hf0,k0⟩:=tierInv_close he h.i0
  have hlt:t / c.2.1.1<u / c.2.1.1:=by
    have:t / c.2.1.1≤u / c.2.1.1:=Int.ediv_le_ediv (by have:=hr.w0;omega) (by omega)
    omega
  refine ⟨hf0,?_⟩
  have s0ok:FoldOk c (tput s.1 (t / c.2.1.1) (cellOf (win c.2.1.1 l (t / c.2.1.1))),s.2) :=
    ⟨hc,by simpa [tput] using hok.n0,hok.n1,hok.n2,tput_ok hok.t0 hf0,hok.t1,hok.t2⟩
  generalize hs0:tput s.1 (t / c.2.1.1) (cellOf (win c.2.1.1 l (t / c.2.1.1)))=a0 at *
  have b0:below c.2.1.1 l u=l:=below_all fun e hel=>by have:=he.wle hr.w0.1 e hel;omega
  have q1:=edvm (t:=t) hr.w0.1 hr.w1.1 hc.m1
  have q1u:=edvm (t:=u) hr.w0.1 hr.w1.1 hc.m1
  have q2:=edvm (t:=t) hr.w0.1 hr.w2.1 hc.m02
  have q2u:=edvm (t:=u) hr.w0.1 hr.w2.1 hc.m02
  have q12:=edvm (t:=t) hr.w1.1 hr.w2.1 hc.m2
  have ht0:0≤t:=by obtain ⟨e,hel,het⟩:=he.last;have:=(he.foll.ok e hel).t0;omega
  have r1:up1 c (a0,s.2) (t / c.2.1.1) (u / c.2.1.1)=(a0,(if t / c.2.1.2.1=u / c.2.1.2.1 then s.2.1 else tput s.2.1 (t / c.2.1.2.1) (cellOf (win c.2.1.2.1 l (t / c.2.1.2.1))),s.2.2)) ∧
      (t / c.2.1.2.1≠u / c.2.1.2.1→TierInv (tput s.2.1 (t / c.2.1.2.1) (cellOf (win c.2.1.2.1 l (t / c.2.1.2.1)))) c.2.1.2.1 l):=by
    unfold up1
    rw[q1.1,q1u.1]
    by_cases k:t / c.2.1.2.1=u / c.2.1.2.1
    · rw[if_pos k,if_pos k];exact ⟨rfl,fun n=>absurd k n⟩
    · obtain ⟨hf1,k1⟩:=tierInv_close he h.i1
      have hm:mk1 c (a0,s.2) (t / c.2.1.2.1)=(cellOf (win c.2.1.2.1 l (t / c.2.1.2.1)),0):=by
        unfold mk1
        have e1:0≤c.2.1.2.1 / c.2.1.1:=Int.ediv_nonneg (by have:=hr.w1;omega) (by have:=hr.w0;omega)
        have e0:0≤t / c.2.1.2.1:=Int.ediv_nonneg ht0 (by have:=hr.w1;omega)
        have hlen:((a0:List Slo).length:Int)=c.2.2.1.1:=s0ok.n0
        have hub:t / c.2.1.1<t / c.2.1.2.1*(c.2.1.2.1 / c.2.1.1)+c.2.1.2.1 / c.2.1.1:=by
          rw[←q1.2]
          have hp:0<c.2.1.2.1 / c.2.1.1:=by
            rcases Int.lt_or_le 0 (c.2.1.2.1 / c.2.1.1) with z | z
            · exact z
            · exfalso
              have e:c.2.1.1*(c.2.1.2.1 / c.2.1.1)=c.2.1.2.1:=by have:=Int.mul_ediv_add_emod c.2.1.2.1 c.2.1.1;have:=hc.m1;omega
              have:c.2.1.2.1 / c.2.1.1=0:=by omega
              rw[this,Int.mul_zero] at e
              have:=hr.w1;omega
          have:=Int.lt_ediv_add_one_mul_self (t / c.2.1.1) hp
          rw[Int.add_mul,Int.one_mul] at this
          exact this
        have:=tierInv_fold k0 he.foll (i:=t / c.2.1.2.1*(c.2.1.2.1 / c.2.1.1)) (k:=(t / c.2.1.2.1+1)*(c.2.1.2.1 / c.2.1.1)) (Int.mul_nonneg e0 e1)
          (Int.mul_le_mul_of_nonneg_right (by omega) e1) (by rw[hlen];exact win_small he hr.w0.1 hub hc.d1)
        rw[this,win_rng_up hr.w0.1 hr.w1.1 hc.m1]
      rw[if_neg k,if_neg k,hm,if_pos (And.intro rfl hf1)]
      exact ⟨rfl,fun _=>k1⟩
  have okc1:=up1_ok s0ok (t / c.2.1.1) (u / c.2.1.1)
  have okc2:=upw_ok s0ok (t / c.2.1.1) (u / c.2.1.1)
  have i1:TierInv (if t / c.2.1.2.1=u / c.2.1.2.1 then s.2.1 else tput s.2.1 (t / c.2.1.2.1) (cellOf (win c.2.1.2.1 l (t / c.2.1.2.1)))) c.2.1.2.1 (below c.2.1.2.1 l u):=by
    by_cases k:t / c.2.1.2.1=u / c.2.1.2.1
    · rw[if_pos k,←below_congr k];exact h.i1
    · have:below c.2.1.2.1 l u=l:=below_all fun e hel=>by
        have:=he.wle hr.w1.1 e hel
        have:t / c.2.1.2.1≤u / c.2.1.2.1:=Int.ediv_le_ediv (by have:=hr.w1;omega) (by omega)
        omega
      rw[if_neg k,this];exact r1.2 k
  unfold upw at okc2 ⊢
  rw[r1.1] at okc1 okc2 ⊢
  generalize hs1:(if t / c.2.1.2.1=u / c.2.1.2.1 then s.2.1 else tput s.2.1 (t / c.2.1.2.1) (cellOf (win c.2.1.2.1 l (t / c.2.1.2.1))))=a1 at *
  have r2:up2 c (a0,(a1,s.2.2)) (t / c.2.1.1) (u / c.2.1.1)=(a0,(a1,if t / c.2.1.2.2=u / c.2.1.2.2 then s.2.2 else tput s.2.2 (t / c.2.1.2.2) (cellOf (win c.2.1.2.2 l (t / c.2.1.2.2))))) ∧
      (t / c.2.1.2.2≠u / c.2.1.2.2→TierInv (tput s.2.2 (t / c.2.1.2.2) (cellOf (win c.2.1.2.2 l (t / c.2.1.2.2)))) c.2.1.2.2 l):=by
    unfold up2
    rw[q2.1,q2u.1]
    by_cases k:t / c.2.1.2.2=u / c.2.1.2.2
    · rw[if_pos k,if_pos k];exact ⟨rfl,fun n=>absurd k n⟩
    · obtain ⟨hf2,k2⟩:=tierInv_close he h.i2
      have k1':t / c.2.1.2.1≠u / c.2.1.2.1:=fun z=>k (same_win1 hc z)
      have hb1:below c.2.1.2.1 l u=l:=below_all fun e hel=>by
        have:=he.wle hr.w1.1 e hel
        have:t / c.2.1.2.1≤u / c.2.1.2.1:=Int.ediv_le_ediv (by have:=hr.w1;omega) (by omega)
        omega
      rw[hb1] at i1
      have hm:mk2 c (a0,(a1,s.2.2)) (t / c.2.1.2.2)=(cellOf (win c.2.1.2.2 l (t / c.2.1.2.2)),0):=by
        unfold mk2
        have e1:0≤c.2.1.2.2 / c.2.1.2.1:=Int.ediv_nonneg (by have:=hr.w2;omega) (by have:=hr.w1;omega)
        have e0:0≤t / c.2.1.2.2:=Int.ediv_nonneg ht0 (by have:=hr.w2;omega)
        have hlen:((a1:List Slo).length:Int)=c.2.2.1.2.1:=okc1.n1
        have hub:t / c.2.1.2.1<t / c.2.1.2.2*(c.2.1.2.2 / c.2.1.2.1)+c.2.1.2.2 / c.2.1.2.1:=by
          rw[←q12.2]
          have hp:0<c.2.1.2.2 / c.2.1.2.1:=by
            rcases Int.lt_or_le 0 (c.2.1.2.2 / c.2.1.2.1) with z | z
            · exact z
            · exfalso
              have e:c.2.1.2.1*(c.2.1.2.2 / c.2.1.2.1)=c.2.1.2.2:=by have:=Int.mul_ediv_add_emod c.2.1.2.2 c.2.1.2.1;have:=hc.m2;omega
              have:c.2.1.2.2 / c.2.1.2.1=0:=by omega
              rw[this,Int.mul_zero] at e
              have:=hr.w2;omega
          have:=Int.lt_ediv_add_one_mul_self (t / c.2.1.2.1) hp
          rw[Int.add_mul,Int.one_mul] at this
          exact this
        have:=tierInv_fold i1 he.foll (i:=t / c.2.1.2.2*(c.2.1.2.2 / c.2.1.2.1)) (k:=(t / c.2.1.2.2+1)*(c.2.1.2.2 / c.2.1.2.1)) (Int.mul_nonneg e0 e1)
          (Int.mul_le_mul_of_nonneg_right (by omega) e1) (by rw[hlen];exact win_small he hr.w1.1 hub hc.d2)
        rw[this,win_rng_up hr.w1.1 hr.w2.1 hc.m2]
      rw[if_neg k,if_neg k,hm,if_pos (And.intro rfl hf2)]
      exact ⟨rfl,fun _=>k2⟩
  rw[r2.1] at okc2 ⊢
  refine ⟨okc2,by rw[b0];exact k0,i1,?_⟩
  by_cases k:t / c.2.1.2.2=u / c.2.1.2.2
  · simp only[if_pos k]
    rw[←below_congr k];exact h.i2
  · have:below c.2.1.2.2 l u=l:=below_all fun e hel=>by
      have:=he.wle hr.w2.1 e hel
      have:t / c.2.1.2.2≤u / c.2.1.2.2:=Int.ediv_le_ediv (by have:=hr.w2;omega) (by omega)
      omega
    simp only[if_neg k]
    rw[this];exact r2.2 k
theorem allE_up {w:Int}:∀(L:List Slo) (c:Cel) (lo:Int),Up L→(∀s∈L,FitsP s.2 w s.1∧lo≤s.1)→CellOk c→(c=z0∨c.2.2.1.1 / w<lo)→(allE c (L.map (·.2))).2=0:=by
  intro L
  induction L with
  | nil=>intro c lo _ _ _ _;rfl
  | cons s L ih =>
    intro c lo hu hs hc hl
    unfold Up at hu
    rw[List.pairwise_cons] at hu
    obtain ⟨hf,h1⟩:=hs s (by simp)
    have ha:Ahead c s.2:=by
      rcases hl with h | h
      · exact .inl h
      · refine .inr (.inr ?_)
        have e:=hf.f
        rcases Int.lt_or_le c.2.2.1.1 s.2.2.1.1 with q | q
        · exact q
        · have:=Int.ediv_le_ediv (c:=w) (by have:=hf.w0;omega) q
          omega
    have em:mrgE c s.2=(mrg c s.2,0):=by unfold mrgE;rw[if_pos (And.intro hc hf.n.ok),if_pos ha]
    simp only[List.map_cons,allE]
    rw[em,if_pos rfl]
    refine ih _ (s.1+1) hu.2 (fun x hx=>⟨(hs x (by simp[hx])).1,by have:=hu.1 x hx;omega⟩) (mrg_ok hc hf.n.ok ha) (.inr ?_)
    have el:(mrg c s.2).2.2.1.1=s.2.2.2.1.1:=by
      unfold mrg
      by_cases k:c=z0
      · rw[if_pos k]
      · rw[if_neg k,if_neg hf.n.ne]
    rw[el,hf.l];omega
theorem tfold_none {l:List Slo} {w i k:Int} (h:TierOk l w) (h0:0≤i) (hik:i≤k):(tfold l i k).2=0:=by
  unfold tfold
  rw[if_neg (by omega)]
  unfold within
  refine allE_up (w:=w) _ z0 0 ((tall_up h).filter _) (fun s hs => ?_) ok_z0 (.inl rfl)
  have:=(tall_fits h (List.mem_filter.1 hs).1).1
  exact ⟨this,this.i0.1⟩
noncomputable def now1 (c:Conf) (s:Ser):Cel×Int:=mrgE (tfold s.2.2.2.1.1 (s.2.1 / c.2.1.2.1*(c.2.1.2.1 / c.2.1.1)) (s.2.1 / c.2.1.1)).1 s.2.2.2.2.2
noncomputable def now2 (c:Conf) (s:Ser):Cel×Int :=
  if (now1 c s).2≠0 then (z0,(now1 c s).2) else mrgE (tfold s.2.2.2.1.2.1 (s.2.1 / c.2.1.2.2*(c.2.1.2.2 / c.2.1.2.1)) (s.2.1 / c.2.1.2.1)).1 (now1 c s).1
theorem tfold_w (l:List Slo) (i k:Int):CelW (tfold l i k).1 := .of (tfold_okc l i k)
theorem serOk_ends {c:Conf} {s:Ser} (h:SerOk c s) (hn:¬(s.2.1 = -1)):EndsP c s∧∃e,EvOk e∧e.1=s.2.1:=by
  rcases h.st with q | q
  · exact absurd q.1 hn
  · obtain ⟨e,he,h1⟩:=q.2.last
    exact ⟨q.2,e,last_ok h.raw he,h1⟩
theorem over_range {a b t:Int} (ha:1≤a∧a≤1099511627776) (hb:1≤b∧b≤1099511627776) (hm:b % a=0) (ht:0≤t∧t<35184372088832) :
    0≤t / b*(b / a)∧t / b*(b / a)≤t / a∧t / a<35184372088832∧0≤t / a:=by
  have h1:=(edvm (t:=t) ha.1 hb.1 hm).2
  have h2:0≤t / b:=Int.ediv_nonneg ht.1 (by omega)
  have h3:0≤b / a:=Int.ediv_nonneg (by omega) (by omega)
  have h4:0≤t / a:=Int.ediv_nonneg ht.1 (by omega)
  have h5:t / a≤t:=Int.ediv_le_self _ ht.1
  refine ⟨Int.mul_nonneg h2 h3,?_,by omega,h4⟩
  have h6:1≤b / a:=by
    have e:a*(b / a)=b:=by have:=Int.mul_ediv_add_emod b a;omega
    rcases Int.lt_or_le 0 (b / a) with q | q
    · omega
    · have:b / a=0:=by omega
      rw[this] at e;omega
  rw[←h1]
  exact Int.ediv_mul_le _ (by omega)
structure At (c:Conf) (s:Ser):Prop where
  l0:0≤s.2.1
  l1:s.2.1<35184372088832
theorem serOk_at {c:Conf} {s:Ser} (h:SerOk c s) (hn:¬(s.2.1 = -1)):0≤s.2.1∧s.2.1<35184372088832:=by
  obtain ⟨_,e,he,h1⟩:=serOk_ends h hn
  rw[←h1];exact ⟨he.t0,he.t1⟩
theorem quo_at {t:Int} (ht:0≤t∧t<35184372088832) {w:Int} (hw:1≤w):IntKind.wrap .i64 (Int.tdiv t w)=t / w:=by
  have:0≤t / w:=Int.ediv_nonneg ht.1 (by omega)
  have:t / w≤t:=Int.ediv_le_self _ ht.1
  rw[tdiv_nn ht.1,w64 (by omega) (by omega)]
theorem nz {w:Int} (h:1≤w):¬(w=0):=by omega
theorem kept_now0 (n:Nat) (c:Conf) (s:Ser):srk_now (n+1) (c,s) 0=some (s.2.2.2.2.2,0):=by rw[srk_now_eq_0]
theorem mrgE_nn (a b:Cel):0≤(mrgE a b).2:=by
  unfold mrgE;split
  · split<;>simp
  · simp
theorem kept_now1 (n:Nat) (c:Conf) {s:Ser} (h:SerOk c s) (hw:SerW s) (hn:¬(s.2.1 = -1)):srk_now (n+19) (c,s) 1=some (now1 c s):=by
  have hr:=h.fold.cok.rng
  have ht:=serOk_at h hn
  obtain ⟨o1,o2,o3,o4⟩:=over_range hr.w0 hr.w1 h.fold.cok.m1 ht
  rw[srk_now_eq_1]
  simp only[tfd,tfn,if_neg (nz hr.w0.1),if_neg (nz hr.w1.1),quo_at ht hr.w0.1,quo_at ht hr.w1.1,quo_w hr.w1 hr.w0.1]
  rw[w64 (by omega) (by omega),tier_fold n h.fold.t0,kept_now0 (n+17)]
  simp only[obs,tfold_none h.fold.t0 o1 o2,if_true,cell_merge (n+12) (tfold_w _ _ _) hw.opn.c]
  rfl
theorem now1_w (c:Conf) (s:Ser):CelW (now1 c s).1:=mrgE_w _ _
theorem kept_now2 (n:Nat) (c:Conf) {s:Ser} (h:SerOk c s) (hw:SerW s) (hn:¬(s.2.1 = -1)):srk_now (n+20) (c,s) 2=some (now2 c s):=by
  have hr:=h.fold.cok.rng
  have ht:=serOk_at h hn
  obtain ⟨o1,o2,o3,o4⟩:=over_range hr.w1 hr.w2 h.fold.cok.m2 ht
  rw[srk_now_eq_2]
  simp only[tfd,tfn,if_neg (nz hr.w1.1),if_neg (nz hr.w2.1),quo_at ht hr.w1.1,quo_at ht hr.w2.1,quo_w hr.w2 hr.w1.1]
  rw[w64 (by omega) (by omega),tier_fold (n+1) h.fold.t1,kept_now1 n c h hw hn]
  simp only[obs,tfold_none h.fold.t1 o1 o2,if_true,cell_merge (n+13) (tfold_w _ _ _) (now1_w c s)]
  unfold now2
  by_cases k:(now1 c s).2=0
  · rw[if_pos k,if_neg (nn k)]
  · have:0≤(now1 c s).2:=mrgE_nn _ _
    rw[if_neg k,if_pos k,if_pos (by omega)];rfl
noncomputable def rangeV (ok:Prop) [Decidable ok] (i j last w:Int) (t:List Slo) (now:Cel×Int):Cel×Int :=
  if ok then (if i<0 then (z0,1) else if j<i then (z0,1) else if last = -1 then (z0,0) else if last / w<i then tfold t i j else if j≤last / w then tfold t i j else if now.2≠0 then (z0,now.2) else mrgE (tfold t i j).1 now.1) else (z0,2)
theorem now2_w (c:Conf) (s:Ser):CelW (now2 c s).1:=by
  unfold now2;split
  · exact celW_z0
  · exact mrgE_w _ _
theorem kept_span0 (n:Nat) (c:Conf) {s:Ser} (h:SerOk c s) (hw:SerW s) {i j:Int} (h0:¬i<0) (hij:¬j<i):srk_span (n+21) (c,s) 0 i j=some (rangeV (SerOk c s) i j s.2.1 c.2.1.1 s.2.2.2.1.1 (s.2.2.2.2.2,0)):=by
  rw[srk_span_eq_0]
  unfold rangeV
  rw[if_pos h,if_neg h0,if_neg hij]
  simp only[tfd,tfn]
  by_cases hn:s.2.1 = -1
  · rw[if_pos hn,if_pos hn];rfl
  have hr:=h.fold.cok.rng
  have ht:=serOk_at h hn
  rw[if_neg hn,if_neg hn,if_neg (nz hr.w0.1),quo_at ht hr.w0.1,tier_fold (n+2) h.fold.t0]
  simp only[obs,tfold_none h.fold.t0 (show 0≤i by omega) (show i≤j by omega),if_true]
  by_cases h2:s.2.1 / c.2.1.1<i
  · rw[if_pos h2,if_pos h2]
  rw[if_neg h2,if_neg h2]
  by_cases h3:j≤s.2.1 / c.2.1.1
  · rw[if_pos h3,if_pos h3]
  rw[if_neg h3,if_neg h3,kept_now0 (n+19) c s]
  simp only[obs,cell_merge (n+14) (tfold_w _ _ _) hw.opn.c]
  rw[if_pos trivial,if_neg (nn rfl)]
theorem series_range0 (n:Nat) (c:Conf) {s:Ser} (hw:SerW s) (i j:Int):series_Range (n+22) c s 0 i j=some (rangeV (SerOk c s) i j s.2.1 c.2.1.1 s.2.2.2.1.1 (s.2.2.2.2.2,0)):=by
  rw[series_Range_eq,series_open_val (n+11) c hw]
  by_cases h:SerOk c s
  case neg=>unfold rangeV;rw[if_neg h,if_neg h];rfl
  rw[if_pos h]
  simp only[obs,oelim_some,decide_true,Bool.not_true,tff,tfd,if_neg (show ¬((0:Int)<0) by omega),if_neg (show ¬((3:Int)≤0) by omega)]
  by_cases h1:i<0
  · unfold rangeV;rw[if_pos h1,if_pos h,if_pos h1];rfl
  by_cases h2:j<i
  · unfold rangeV;rw[if_neg h1,if_pos h2,if_pos h,if_neg h1,if_pos h2];rfl
  rw[if_neg h1,if_neg h2,kept_span0 n c h hw h1 h2];rfl
theorem kept_span1 (n:Nat) (c:Conf) {s:Ser} (h:SerOk c s) (hw:SerW s) {i j:Int} (h0:¬i<0) (hij:¬j<i):srk_span (n+21) (c,s) 1 i j=some (rangeV (SerOk c s) i j s.2.1 c.2.1.2.1 s.2.2.2.1.2.1 (now1 c s)):=by
  rw[srk_span_eq_1]
  unfold rangeV
  rw[if_pos h,if_neg h0,if_neg hij]
  simp only[tfd,tfn]
  by_cases hn:s.2.1 = -1
  · rw[if_pos hn,if_pos hn];rfl
  have hr:=h.fold.cok.rng
  have ht:=serOk_at h hn
  rw[if_neg hn,if_neg hn,if_neg (nz hr.w1.1),quo_at ht hr.w1.1,tier_fold (n+2) h.fold.t1]
  simp only[obs,tfold_none h.fold.t1 (show 0≤i by omega) (show i≤j by omega),if_true]
  by_cases h2:s.2.1 / c.2.1.2.1<i
  · rw[if_pos h2,if_pos h2]
  rw[if_neg h2,if_neg h2]
  by_cases h3:j≤s.2.1 / c.2.1.2.1
  · rw[if_pos h3,if_pos h3]
  rw[if_neg h3,if_neg h3,kept_now1 (n+1) c h hw hn]
  simp only[obs,cell_merge (n+14) (tfold_w _ _ _) (now1_w c s)]
  by_cases h4:(now1 c s).2=0
  · rw[if_pos h4,if_neg (nn h4)]
  · rw[if_neg h4,if_pos h4];rfl
theorem series_range1 (n:Nat) (c:Conf) {s:Ser} (hw:SerW s) (i j:Int):series_Range (n+22) c s 1 i j=some (rangeV (SerOk c s) i j s.2.1 c.2.1.2.1 s.2.2.2.1.2.1 (now1 c s)):=by
  rw[series_Range_eq,series_open_val (n+11) c hw]
  by_cases h:SerOk c s
  case neg=>unfold rangeV;rw[if_neg h,if_neg h];rfl
  rw[if_pos h]
  simp only[obs,oelim_some,decide_true,Bool.not_true,tff,tfd,if_neg (show ¬((1:Int)<0) by omega),if_neg (show ¬((3:Int)≤1) by omega)]
  by_cases h1:i<0
  · unfold rangeV;rw[if_pos h1,if_pos h,if_pos h1];rfl
  by_cases h2:j<i
  · unfold rangeV;rw[if_neg h1,if_pos h2,if_pos h,if_neg h1,if_pos h2];rfl
  rw[if_neg h1,if_neg h2,kept_span1 n c h hw h1 h2];rfl
theorem kept_span2 (n:Nat) (c:Conf) {s:Ser} (h:SerOk c s) (hw:SerW s) {i j:Int} (h0:¬i<0) (hij:¬j<i):srk_span (n+21) (c,s) 2 i j=some (rangeV (SerOk c s) i j s.2.1 c.2.1.2.2 s.2.2.2.1.2.2 (now2 c s)):=by
  rw[srk_span_eq_2]
  unfold rangeV
  rw[if_pos h,if_neg h0,if_neg hij]
  simp only[tfd,tfn]
  by_cases hn:s.2.1 = -1
  · rw[if_pos hn,if_pos hn];rfl
  have hr:=h.fold.cok.rng
  have ht:=serOk_at h hn
  rw[if_neg hn,if_neg hn,if_neg (nz hr.w2.1),quo_at ht hr.w2.1,tier_fold (n+2) h.fold.t2]
  simp only[obs,tfold_none h.fold.t2 (show 0≤i by omega) (show i≤j by omega),if_true]
  by_cases h2:s.2.1 / c.2.1.2.2<i
  · rw[if_pos h2,if_pos h2]
  rw[if_neg h2,if_neg h2]
  by_cases h3:j≤s.2.1 / c.2.1.2.2
  · rw[if_pos h3,if_pos h3]
  rw[if_neg h3,if_neg h3,kept_now2 n c h hw hn]
  simp only[obs,cell_merge (n+14) (tfold_w _ _ _) (now2_w c s)]
  by_cases h4:(now2 c s).2=0
  · rw[if_pos h4,if_neg (nn h4)]
  · rw[if_neg h4,if_pos h4];rfl
theorem series_range2 (n:Nat) (c:Conf) {s:Ser} (hw:SerW s) (i j:Int):series_Range (n+22) c s 2 i j=some (rangeV (SerOk c s) i j s.2.1 c.2.1.2.2 s.2.2.2.1.2.2 (now2 c s)):=by
  rw[series_Range_eq,series_open_val (n+11) c hw]
  by_cases h:SerOk c s
  case neg=>unfold rangeV;rw[if_neg h,if_neg h];rfl
  rw[if_pos h]
  simp only[obs,oelim_some,decide_true,Bool.not_true,tff,tfd,if_neg (show ¬((2:Int)<0) by omega),if_neg (show ¬((3:Int)≤2) by omega)]
  by_cases h1:i<0
  · unfold rangeV;rw[if_pos h1,if_pos h,if_pos h1];rfl
  by_cases h2:j<i
  · unfold rangeV;rw[if_neg h1,if_pos h2,if_pos h,if_neg h1,if_pos h2];rfl
  rw[if_neg h1,if_neg h2,kept_span2 n c h hw h1 h2];rfl
theorem r05_same_l (n:Nat) (l:List Lab) (hL:l.length≤1000000):∀(rest pre:List Lab) (f:Nat) (ix len:Int),l=pre++rest→ix=pre.length→len=l.length→rest.length<f→r05_Same_l4 n f (l,l,len,ix,())=some (.inl ()):=by
  intro rest
  induction rest with
  | nil =>
    intro pre f ix len hl hi hn hf
    obtain ⟨f,rfl⟩:∃g,f=g+1:=⟨f-1,by simp at hf;omega⟩
    rw[r05_Same_l4_eq]
    simp only[tfd,if_neg (idxe hl hi hn)]
  | cons x rest ih =>
    intro pre f ix len hl hi hn hf
    obtain ⟨f,rfl⟩:∃g,f=g+1:=⟨f-1,by simp at hf;omega⟩
    rw[r05_Same_l4_eq]
    simp only[tfd,if_pos (idx hl hi hn),at_mid hl hi,obs,labEq,decide_true,Bool.not_true,tff,idxw hl hi (by omega)]
    exact ih (pre++[x]) f (ix+1) len (idxl hl) (idxs hi) hn (by simp at hf;omega)
structure SerL (s:Ser):Prop where
  l:s.1.length≤1000000
  r:s.2.2.1.2.2.length≤1000000
  a:s.2.2.2.1.1.length≤1000000
  b:s.2.2.2.1.2.1.length≤1000000
  d:s.2.2.2.1.2.2.length≤1000000
theorem series_check (n:Nat) (c:Conf) {s:Ser} (hw:SerW s):series_Check (n+11) c s=some (if SerOk c s then 0 else 2):=by
  rw[series_Check_eq,series_open_val n c hw]
  by_cases h:SerOk c s
  · rw[if_pos h,if_pos h];rfl
  · rw[if_neg h,if_neg h];rfl
theorem small05_l (n:Nat) (l:List Lab) (hL:l.length≤9223372036854775807):∀(rest pre:List Lab) (f:Nat) (ix len:Int),l=pre++rest→ix=pre.length→len=l.length→rest.length<f →
    l05_Small_l2 n f (l,len,ix,())=some (.inl ())∨l05_Small_l2 n f (l,len,ix,())=some (.inr 0):=by
  intro rest
  induction rest with
  | nil =>
    intro pre f ix len hl hi hn hf
    obtain ⟨f,rfl⟩:∃g,f=g+1:=⟨f-1,by simp at hf;omega⟩
    left
    rw[l05_Small_l2_eq]
    simp only[tfd,if_neg (idxe hl hi hn)]
  | cons x rest ih =>
    intro pre f ix len hl hi hn hf
    obtain ⟨f,rfl⟩:∃g,f=g+1:=⟨f-1,by simp at hf;omega⟩
    have hlen:=congrArg List.length hl
    simp at hlen
    rw[l05_Small_l2_eq]
    simp only[tfd,if_pos (idx hl hi hn),at_mid hl hi,obs]
    rw[w64 (x:=ix+1) (by omega) (by omega)]
    by_cases h1:ix=40
    · right;rw[if_pos h1]
    rw[if_neg h1]
    by_cases h2:(1000:Int)<x.1.length
    · right;rw[if_pos h2]
    rw[if_neg h2]
    by_cases h3:(1000:Int)<x.2.length
    · right;rw[if_pos h3]
    rw[if_neg h3]
    exact ih (pre++[x]) f (ix+1) len (idxl hl) (idxs hi) hn (by simp at hf;omega)
theorem l05_small (n:Nat) (l:List Lab) (hL:l.length≤9223372036854775807):l05_Small (n+1) l=some 0∨l05_Small (n+1) l=some 1:=by
  rw[l05_Small_eq]
  rcases small05_l n l hL l [] loopFuel 0 _ rfl rfl rfl (by unfold loopFuel;omega) with h | h
  · right;rw[h];rfl
  · left;rw[h];rfl
theorem eq_sl_Equal_Label_l (n:Nat) (a b:List Lab) (hL:a.length≤9223372036854775807):∀(ra rb pa pb:List Lab) (f:Nat) (ix len:Int),a=pa++ra→b=pb++rb→pa.length=pb.length→ra.length=rb.length→ix=pa.length→len=a.length→ra.length<f →
    sl_Equal_Label_l4 n f (a,b,len,ix,())=some (if ra=rb then .inl () else .inr false):=by
  intro ra
  induction ra with
  | nil =>
    intro rb pa pb f ix len ha hb hp hr hi hn hf
    obtain ⟨f,rfl⟩:∃g,f=g+1:=⟨f-1,by simp at hf;omega⟩
    have e:rb=[]:=List.length_eq_zero_iff.1 (by simpa using hr.symm)
    subst e
    rw[sl_Equal_Label_l4_eq,decide_eq_false (idxe ha hi hn),tff,if_pos rfl]
  | cons x ra ih =>
    intro rb pa pb f ix len ha hb hp hr hi hn hf
    obtain ⟨f,rfl⟩:∃g,f=g+1:=⟨f-1,by simp at hf;omega⟩
    cases rb with
    | nil=>simp at hr
    | cons y rb =>
      have hlen:=congrArg List.length ha
      simp at hlen
      rw[sl_Equal_Label_l4_eq,decide_eq_true (idx ha hi hn),tft,at_mid ha hi,at_mid hb (by omega)]
      simp only[obs,labEq]
      rw[w64 (x:=ix+1) (by omega) (by omega)]
      by_cases h:x=y
      · subst h
        simp only[decide_true,Bool.not_true,tff]
        rw[ih rb (pa++[x]) (pb++[x]) f (ix+1) len (idxl ha) (idxl hb) (by simp;omega) (by simpa using hr) (idxs hi) hn (by simp at hf;omega)]
        simp
      · rw[if_neg (by simp[h])]
        simp only[decide_eq_false h,Bool.not_false,tft]
theorem eq_sl_Equal_Label (n:Nat) (a b:List Lab) (hL:a.length≤9223372036854775807):sl_Equal_Label (n+1) a b=some (decide (a=b)):=by
  rw[sl_Equal_Label_eq]
  by_cases h:a.length=b.length
  · rw[decide_eq_true (show ((a.length:Nat):Int)=(b.length:Nat) by omega)]
    simp only[Bool.not_true,tff]
    rw[eq_sl_Equal_Label_l n a b hL a b [] [] loopFuel 0 _ rfl rfl rfl h rfl rfl (by unfold loopFuel;omega)]
    by_cases h':a=b
    · rw[if_pos h',decide_eq_true h'];rfl
    · rw[if_neg h',decide_eq_false h'];rfl
  · rw[decide_eq_false (show ¬((a.length:Nat):Int)=(b.length:Nat) by omega),decide_eq_false (fun k:a=b=>h (by rw[k]))]
    rfl
theorem eq_sl_Equal_Event_l (n:Nat) (a b:List Ev) (hL:a.length≤9223372036854775807):∀(ra rb pa pb:List Ev) (f:Nat) (ix len:Int),a=pa++ra→b=pb++rb→pa.length=pb.length→ra.length=rb.length→ix=pa.length→len=a.length→ra.length<f →
    sl_Equal_Event_l4 n f (a,b,len,ix,())=some (if ra=rb then .inl () else .inr false):=by
  intro ra
  induction ra with
  | nil =>
    intro rb pa pb f ix len ha hb hp hr hi hn hf
    obtain ⟨f,rfl⟩:∃g,f=g+1:=⟨f-1,by simp at hf;omega⟩
    have e:rb=[]:=List.length_eq_zero_iff.1 (by simpa using hr.symm)
    subst e
    rw[sl_Equal_Event_l4_eq,decide_eq_false (idxe ha hi hn),tff,if_pos rfl]
  | cons x ra ih =>
    intro rb pa pb f ix len ha hb hp hr hi hn hf
    obtain ⟨f,rfl⟩:∃g,f=g+1:=⟨f-1,by simp at hf;omega⟩
    cases rb with
    | nil=>simp at hr
    | cons y rb =>
      have hlen:=congrArg List.length ha
      simp at hlen
      rw[sl_Equal_Event_l4_eq,decide_eq_true (idx ha hi hn),tft,at_mid ha hi,at_mid hb (by omega)]
      simp only[obs,evEq]
      rw[w64 (x:=ix+1) (by omega) (by omega)]
      by_cases h:x=y
      · subst h
        simp only[decide_true,Bool.not_true,tff]
        rw[ih rb (pa++[x]) (pb++[x]) f (ix+1) len (idxl ha) (idxl hb) (by simp;omega) (by simpa using hr) (idxs hi) hn (by simp at hf;omega)]
        simp
      · rw[if_neg (by simp[h])]
        simp only[decide_eq_false h,Bool.not_false,tft]
theorem eq_sl_Equal_Event (n:Nat) (a b:List Ev) (hL:a.length≤9223372036854775807):sl_Equal_Event (n+1) a b=some (decide (a=b)):=by
  rw[sl_Equal_Event_eq]
  by_cases h:a.length=b.length
  · rw[decide_eq_true (show ((a.length:Nat):Int)=(b.length:Nat) by omega)]
    simp only[Bool.not_true,tff]
    rw[eq_sl_Equal_Event_l n a b hL a b [] [] loopFuel 0 _ rfl rfl rfl h rfl rfl (by unfold loopFuel;omega)]
    by_cases h':a=b
    · rw[if_pos h',decide_eq_true h'];rfl
    · rw[if_neg h',decide_eq_false h'];rfl
  · rw[decide_eq_false (show ¬((a.length:Nat):Int)=(b.length:Nat) by omega),decide_eq_false (fun k:a=b=>h (by rw[k]))]
    rfl
theorem eq_sl_Equal_Slot_l (n:Nat) (a b:List Slo) (hL:a.length≤9223372036854775807):∀(ra rb pa pb:List Slo) (f:Nat) (ix len:Int),a=pa++ra→b=pb++rb→pa.length=pb.length→ra.length=rb.length→ix=pa.length→len=a.length→ra.length<f →
    sl_Equal_Slot_l4 n f (a,b,len,ix,())=some (if ra=rb then .inl () else .inr false):=by
  intro ra
  induction ra with
  | nil =>
    intro rb pa pb f ix len ha hb hp hr hi hn hf
    obtain ⟨f,rfl⟩:∃g,f=g+1:=⟨f-1,by simp at hf;omega⟩
    have e:rb=[]:=List.length_eq_zero_iff.1 (by simpa using hr.symm)
    subst e
    rw[sl_Equal_Slot_l4_eq,decide_eq_false (idxe ha hi hn),tff,if_pos rfl]
  | cons x ra ih =>
    intro rb pa pb f ix len ha hb hp hr hi hn hf
    obtain ⟨f,rfl⟩:∃g,f=g+1:=⟨f-1,by simp at hf;omega⟩
    cases rb with
    | nil=>simp at hr
    | cons y rb =>
      have hlen:=congrArg List.length ha
      simp at hlen
      rw[sl_Equal_Slot_l4_eq,decide_eq_true (idx ha hi hn),tft,at_mid ha hi,at_mid hb (by omega)]
      simp only[obs,sloEq]
      rw[w64 (x:=ix+1) (by omega) (by omega)]
      by_cases h:x=y
      · subst h
        simp only[decide_true,Bool.not_true,tff]
        rw[ih rb (pa++[x]) (pb++[x]) f (ix+1) len (idxl ha) (idxl hb) (by simp;omega) (by simpa using hr) (idxs hi) hn (by simp at hf;omega)]
        simp
      · rw[if_neg (by simp[h])]
        simp only[decide_eq_false h,Bool.not_false,tft]
theorem eq_sl_Equal_Slot (n:Nat) (a b:List Slo) (hL:a.length≤9223372036854775807):sl_Equal_Slot (n+1) a b=some (decide (a=b)):=by
  rw[sl_Equal_Slot_eq]
  by_cases h:a.length=b.length
  · rw[decide_eq_true (show ((a.length:Nat):Int)=(b.length:Nat) by omega)]
    simp only[Bool.not_true,tff]
    rw[eq_sl_Equal_Slot_l n a b hL a b [] [] loopFuel 0 _ rfl rfl rfl h rfl rfl (by unfold loopFuel;omega)]
    by_cases h':a=b
    · rw[if_pos h',decide_eq_true h'];rfl
    · rw[if_neg h',decide_eq_false h'];rfl
  · rw[decide_eq_false (show ¬((a.length:Nat):Int)=(b.length:Nat) by omega),decide_eq_false (fun k:a=b=>h (by rw[k]))]
    rfl
theorem eq_r05_Same_l (n:Nat) (a b:List Lab) (hL:a.length≤9223372036854775807):∀(ra rb pa pb:List Lab) (f:Nat) (ix len:Int),a=pa++ra→b=pb++rb→pa.length=pb.length→ra.length=rb.length→ix=pa.length→len=a.length→ra.length<f →
    r05_Same_l4 n f (a,b,len,ix,())=some (if ra=rb then .inl () else .inr false):=by
  intro ra
  induction ra with
  | nil =>
    intro rb pa pb f ix len ha hb hp hr hi hn hf
    obtain ⟨f,rfl⟩:∃g,f=g+1:=⟨f-1,by simp at hf;omega⟩
    have e:rb=[]:=List.length_eq_zero_iff.1 (by simpa using hr.symm)
    subst e
    rw[r05_Same_l4_eq,decide_eq_false (idxe ha hi hn),tff,if_pos rfl]
  | cons x ra ih =>
    intro rb pa pb f ix len ha hb hp hr hi hn hf
    obtain ⟨f,rfl⟩:∃g,f=g+1:=⟨f-1,by simp at hf;omega⟩
    cases rb with
    | nil=>simp at hr
    | cons y rb =>
      have hlen:=congrArg List.length ha
      simp at hlen
      rw[r05_Same_l4_eq,decide_eq_true (idx ha hi hn),tft,at_mid ha hi,at_mid hb (by omega)]
      simp only[obs,labEq]
      rw[w64 (x:=ix+1) (by omega) (by omega)]
      by_cases h:x=y
      · subst h
        simp only[decide_true,Bool.not_true,tff]
        rw[ih rb (pa++[x]) (pb++[x]) f (ix+1) len (idxl ha) (idxl hb) (by simp;omega) (by simpa using hr) (idxs hi) hn (by simp at hf;omega)]
        simp
      · rw[if_neg (by simp[h])]
        simp only[decide_eq_false h,Bool.not_false,tft]
theorem eq_r05_Same (n:Nat) (a b:List Lab) (hL:a.length≤9223372036854775807):r05_Same (n+1) a b=some (decide (a=b)):=by
  rw[r05_Same_eq]
  by_cases h:a.length=b.length
  · rw[decide_eq_true (show ((a.length:Nat):Int)=(b.length:Nat) by omega)]
    simp only[Bool.not_true,tff]
    rw[eq_r05_Same_l n a b hL a b [] [] loopFuel 0 _ rfl rfl rfl h rfl rfl (by unfold loopFuel;omega)]
    by_cases h':a=b
    · rw[if_pos h',decide_eq_true h'];rfl
    · rw[if_neg h',decide_eq_false h'];rfl
  · rw[decide_eq_false (show ¬((a.length:Nat):Int)=(b.length:Nat) by omega),decide_eq_false (fun k:a=b=>h (by rw[k]))]
    rfl
theorem eq_r12_SameList_l (n:Nat) (a b:List Ev) (hL:a.length≤9223372036854775807):∀(ra rb pa pb:List Ev) (f:Nat) (ix len:Int),a=pa++ra→b=pb++rb→pa.length=pb.length→ra.length=rb.length→ix=pa.length→len=a.length→ra.length<f →
    r12_SameList_l4 n f (a,b,len,ix,())=some (if ra=rb then .inl () else .inr false):=by
  intro ra
  induction ra with
  | nil =>
    intro rb pa pb f ix len ha hb hp hr hi hn hf
    obtain ⟨f,rfl⟩:∃g,f=g+1:=⟨f-1,by simp at hf;omega⟩
    have e:rb=[]:=List.length_eq_zero_iff.1 (by simpa using hr.symm)
    subst e
    rw[r12_SameList_l4_eq,decide_eq_false (idxe ha hi hn),tff,if_pos rfl]
  | cons x ra ih =>
    intro rb pa pb f ix len ha hb hp hr hi hn hf
    obtain ⟨f,rfl⟩:∃g,f=g+1:=⟨f-1,by simp at hf;omega⟩
    cases rb with
    | nil=>simp at hr
    | cons y rb =>
      have hlen:=congrArg List.length ha
      simp at hlen
      rw[r12_SameList_l4_eq,decide_eq_true (idx ha hi hn),tft,at_mid ha hi,at_mid hb (by omega)]
      simp only[obs,evEq]
      rw[w64 (x:=ix+1) (by omega) (by omega)]
      by_cases h:x=y
      · subst h
        simp only[decide_true,Bool.not_true,tff]
        rw[ih rb (pa++[x]) (pb++[x]) f (ix+1) len (idxl ha) (idxl hb) (by simp;omega) (by simpa using hr) (idxs hi) hn (by simp at hf;omega)]
        simp
      · rw[if_neg (by simp[h])]
        simp only[decide_eq_false h,Bool.not_false,tft]
theorem eq_r12_SameList (n:Nat) (a b:List Ev) (hL:a.length≤9223372036854775807):r12_SameList (n+1) a b=some (decide (a=b)):=by
  rw[r12_SameList_eq]
  by_cases h:a.length=b.length
  · rw[decide_eq_true (show ((a.length:Nat):Int)=(b.length:Nat) by omega)]
    simp only[Bool.not_true,tff]
    rw[eq_r12_SameList_l n a b hL a b [] [] loopFuel 0 _ rfl rfl rfl h rfl rfl (by unfold loopFuel;omega)]
    by_cases h':a=b
    · rw[if_pos h',decide_eq_true h'];rfl
    · rw[if_neg h',decide_eq_false h'];rfl
  · rw[decide_eq_false (show ¬((a.length:Nat):Int)=(b.length:Nat) by omega),decide_eq_false (fun k:a=b=>h (by rw[k]))]
    rfl
theorem eq_r13_Same_l (n:Nat) (a b:List Slo) (hL:a.length≤9223372036854775807):∀(ra rb pa pb:List Slo) (f:Nat) (ix len:Int),a=pa++ra→b=pb++rb→pa.length=pb.length→ra.length=rb.length→ix=pa.length→len=a.length→ra.length<f →
    r13_Same_l4 n f (a,b,len,ix,())=some (if ra=rb then .inl () else .inr false):=by
  intro ra
  induction ra with
  | nil =>
    intro rb pa pb f ix len ha hb hp hr hi hn hf
    obtain ⟨f,rfl⟩:∃g,f=g+1:=⟨f-1,by simp at hf;omega⟩
    have e:rb=[]:=List.length_eq_zero_iff.1 (by simpa using hr.symm)
    subst e
    rw[r13_Same_l4_eq,decide_eq_false (idxe ha hi hn),tff,if_pos rfl]
  | cons x ra ih =>
    intro rb pa pb f ix len ha hb hp hr hi hn hf
    obtain ⟨f,rfl⟩:∃g,f=g+1:=⟨f-1,by simp at hf;omega⟩
    cases rb with
    | nil=>simp at hr
    | cons y rb =>
      have hlen:=congrArg List.length ha
      simp at hlen
      rw[r13_Same_l4_eq,decide_eq_true (idx ha hi hn),tft,at_mid ha hi,at_mid hb (by omega)]
      simp only[obs,sloEq]
      rw[w64 (x:=ix+1) (by omega) (by omega)]
      by_cases h:x=y
      · subst h
        simp only[decide_true,Bool.not_true,tff]
        rw[ih rb (pa++[x]) (pb++[x]) f (ix+1) len (idxl ha) (idxl hb) (by simp;omega) (by simpa using hr) (idxs hi) hn (by simp at hf;omega)]
        simp
      · rw[if_neg (by simp[h])]
        simp only[decide_eq_false h,Bool.not_false,tft]
theorem eq_r13_Same (n:Nat) (a b:List Slo) (hL:a.length≤9223372036854775807):r13_Same (n+1) a b=some (decide (a=b)):=by
  rw[r13_Same_eq]
  by_cases h:a.length=b.length
  · rw[decide_eq_true (show ((a.length:Nat):Int)=(b.length:Nat) by omega)]
    simp only[Bool.not_true,tff]
    rw[eq_r13_Same_l n a b hL a b [] [] loopFuel 0 _ rfl rfl rfl h rfl rfl (by unfold loopFuel;omega)]
    by_cases h':a=b
    · rw[if_pos h',decide_eq_true h'];rfl
    · rw[if_neg h',decide_eq_false h'];rfl
  · rw[decide_eq_false (show ¬((a.length:Nat):Int)=(b.length:Nat) by omega),decide_eq_false (fun k:a=b=>h (by rw[k]))]
    rfl
noncomputable instance decSer (a b:Ser):Decidable (a=b):=Classical.propDecidable _
structure SerM (s:Ser):Prop where
  l:s.1.length≤9223372036854775807
  r:s.2.2.1.2.2.length≤9223372036854775807
  a:s.2.2.2.1.1.length≤9223372036854775807
  b:s.2.2.2.1.2.1.length≤9223372036854775807
  d:s.2.2.2.1.2.2.length≤9223372036854775807
theorem series_same (n:Nat) (a b:Ser) (h:SerM a):series_Same (n+3) a b=some (decide (a=b)):=by
  rw[series_Same_eq,label_Same_eq,raw_Same_eq,eq_sl_Equal_Label n _ _ h.l,eq_sl_Equal_Event n _ _ h.r,eq_sl_Equal_Slot (n+1) _ _ h.a,eq_sl_Equal_Slot (n+1) _ _ h.b,eq_sl_Equal_Slot (n+1) _ _ h.d]
  obtain ⟨a1,a2,⟨r1,r2,r3⟩,⟨t1,t2,t3⟩,a5⟩:=a
  obtain ⟨b1,b2,⟨q1,q2,q3⟩,⟨u1,u2,u3⟩,b5⟩:=b
  simp only[obs,sloEq,tfd]
  by_cases h1:a1=b1
  case neg=>simp[h1]
  by_cases h2:a2=b2
  case neg=>simp[h1,h2]
  by_cases h3:r1=q1
  case neg=>simp[h1,h2,h3]
  by_cases h4:r2=q2
  case neg=>simp[h1,h2,h3,h4]
  by_cases h5:r3=q3
  case neg=>simp[h1,h2,h3,h4,h5]
  by_cases h6:t1=u1
  case neg=>simp[h1,h2,h3,h4,h5,h6]
  by_cases h7:t2=u2
  case neg=>simp[h1,h2,h3,h4,h5,h6,h7]
  by_cases h8:t3=u3
  case neg=>simp[h1,h2,h3,h4,h5,h6,h7,h8]
  by_cases h9:a5=b5
  case neg=>simp[h1,h2,h3,h4,h5,h6,h7,h8,h9]
  simp[h1,h2,h3,h4,h5,h6,h7,h8,h9]
theorem r15_same (n:Nat) (a b:Ser) (h:SerM a):r15_Same (n+3) a b=some (decide (a=b)):=by
  rw[r15_Same_eq,r12_Same_eq,r14_Same_eq,eq_r05_Same (n+1) _ _ h.l,eq_r12_SameList n _ _ h.r,eq_r13_Same n _ _ h.a,eq_r13_Same n _ _ h.b,eq_r13_Same n _ _ h.d]
  obtain ⟨a1,a2,⟨r1,r2,r3⟩,⟨t1,t2,t3⟩,a5⟩:=a
  obtain ⟨b1,b2,⟨q1,q2,q3⟩,⟨u1,u2,u3⟩,b5⟩:=b
  simp only[obs,sloEq,tfd,tfn]
  by_cases h1:a1=b1
  case neg=>simp[h1]
  by_cases h2:a2=b2
  case neg=>simp[h1,h2]
  by_cases h3:r1=q1
  case neg=>simp[h1,h2,h3]
  by_cases h4:r2=q2
  case neg=>simp[h1,h2,h3,h4]
  by_cases h5:r3=q3
  case neg=>simp[h1,h2,h3,h4,h5]
  by_cases h6:t1=u1
  case neg=>simp[h1,h2,h3,h4,h5,h6]
  by_cases h7:t2=u2
  case neg=>simp[h1,h2,h3,h4,h5,h6,h7]
  by_cases h8:t3=u3
  case neg=>simp[h1,h2,h3,h4,h5,h6,h7,h8]
  by_cases h9:a5=b5
  case neg=>simp[h1,h2,h3,h4,h5,h6,h7,h8,h9]
  simp[h1,h2,h3,h4,h5,h6,h7,h8,h9]
def oldV (now w m:Int):Int×Int:=if OfP now w∧1≤m∧m≤4096 then (if 0<now / w+1-m then now / w+1-m else 0,0) else (0,1)
theorem wi_oldest (n:Nat) (now w m:Int):wi_Oldest (n+4) now w m=some (oldV now w m):=by
  rw[wi_Oldest_eq,wi_of n now w,wi_in_int_eq]
  unfold oldV
  by_cases h:OfP now w
  case neg=>rw[if_neg h,if_neg (fun k=>h k.1)];rfl
  rw[if_pos h]
  have hq:=quo_range h
  simp only[obs,decide_true,Bool.not_true,tff]
  by_cases h1:1≤m
  case neg=>simp[h,h1]
  by_cases h2:m≤4096
  case neg=>simp[h,h1,h2]
  rw[w64 (x:=now / w+1) (by omega) (by omega),w64 (x:=now / w+1-m) (by omega) (by omega)]
  simp[h,h1,h2]
theorem r09_oldest (n:Nat) (now w m:Int):r09_Oldest (n+3) now w m=some (oldV now w m):=by
  rw[r09_Oldest_eq,r09_of n now w]
  unfold oldV
  by_cases h:OfP now w
  case neg=>rw[if_neg h,if_neg (fun k=>h k.1)];rfl
  rw[if_pos h]
  have hq:=quo_range h
  simp only[obs,decide_true,Bool.not_true,tff,tfd]
  by_cases h1:m<1
  · rw[if_pos h1,if_neg (by omega)]
  rw[if_neg h1]
  by_cases h2:4096<m
  · rw[if_pos h2,if_neg (by omega)]
  rw[if_neg h2,w64 (x:=now / w-m) (by omega) (by omega),w64 (x:=now / w-m+1) (by omega) (by omega),if_pos (show OfP now w∧1≤m∧m≤4096 from ⟨h,by omega,by omega⟩)]
  have e:(if now / w-m+1<0 then (0:Int) else now / w-m+1)=if 0<now / w+1-m then now / w+1-m else 0:=by
    split<;>split<;>omega
  rw[e]
noncomputable def goneV (t now w m:Int):Bool:=decide (OfP t w∧(oldV now w m).2=0∧t / w<(oldV now w m).1)
theorem wi_gone (n:Nat) (t now w m:Int):wi_Gone (n+5) t now w m=some (goneV t now w m):=by
  rw[wi_Gone_eq,wi_of (n+1) t w,wi_oldest n now w m]
  unfold goneV
  simp only[obs,tfd]
  by_cases h:OfP t w
  case neg=>rw[if_neg h,if_neg (by simp),decide_eq_false (fun k=>h k.1)]
  rw[if_pos h,if_pos rfl]
  by_cases h1:(oldV now w m).2=0
  · rw[if_pos h1];exact congrArg some (decide_eq_decide.2 ⟨fun k=>⟨h,h1,k⟩,fun k=>k.2.2⟩)
  · rw[if_neg h1,decide_eq_false (fun k=>h1 k.2.1)]
theorem r09_gone (n:Nat) (t now w m:Int):r09_Gone (n+4) t now w m=some (goneV t now w m):=by
  rw[r09_Gone_eq,r09_of (n+1) t w,r09_oldest n now w m]
  unfold goneV
  simp only[obs,tfd]
  by_cases h:OfP t w
  case neg=>rw[if_neg h,if_neg (by simp),decide_eq_false (fun k=>h k.1)]
  rw[if_pos h,if_pos rfl]
  by_cases h1:(oldV now w m).2=0
  · rw[if_pos h1];exact congrArg some (decide_eq_decide.2 ⟨fun k=>⟨h,h1,k⟩,fun k=>k.2.2⟩)
  · rw[if_neg h1,decide_eq_false (fun k=>h1 k.2.1)]
noncomputable def deadV (c:Conf) (last now:Int):Bool :=
  decide (OkC c)&&(goneV last now c.2.1.1 c.2.2.1.1&&(goneV last now c.2.1.2.1 c.2.2.1.2.1&&goneV last now c.2.1.2.2 c.2.2.1.2.2))
theorem series_dead (n:Nat) (c:Conf) (last now:Int):series_Dead (n+6) c last now=some (deadV c last now):=by
  rw[series_Dead_eq,conf_check (n+2) c,wi_gone n,wi_gone n,wi_gone n]
  unfold deadV
  by_cases h:OkC c
  case neg=>rw[if_neg h,decide_eq_false h];rfl
  rw[if_pos h,decide_eq_true h]
  simp only[obs,decide_true,tft,Bool.true_and]
  cases goneV last now c.2.1.1 c.2.2.1.1<;>cases goneV last now c.2.1.2.1 c.2.2.1.2.1<;>cases goneV last now c.2.1.2.2 c.2.2.1.2.2<;>rfl
theorem r15_dead (n:Nat) (c:Conf) (last now:Int):r15_Dead (n+5) c last now=some (deadV c last now):=by
  rw[r15_Dead_eq,r10_check (n+1) c,r09_gone n,r09_gone n,r09_gone n]
  unfold deadV
  by_cases h:OkC c
  case neg=>rw[if_neg h,decide_eq_false h];rfl
  rw[if_pos h,decide_eq_true h]
  simp only[obs,decide_true,Bool.not_true,tff,Bool.true_and]
  cases goneV last now c.2.1.1 c.2.2.1.1<;>cases goneV last now c.2.1.2.1 c.2.2.1.2.1<;>cases goneV last now c.2.1.2.2 c.2.2.1.2.2<;>rfl
noncomputable def newV (c:Conf) (l:List Lab):Ser×Int :=
  if OkC c then (if LabOk l then ((l,(-1,(r0w,(emp c,s0)))),0) else (ser0,8)) else (ser0,2)
theorem clone_label (n:Nat) (l:List Lab) (h:l.length≤1000000):sl_Clone_Label (n+1) l=some l:=by
  rw[sl_Clone_Label_eq,decide_eq_true (show (0+l.length)*32≤140737488355328 by omega)]
  simp only[tft,List.nil_append]
  by_cases h0:l.length=0
  · rw[decide_eq_true h0,tft,List.length_eq_zero_iff.1 h0,both_same]
  · rw[decide_eq_false h0,tff]
theorem series_new (n:Nat) (c:Conf) (l:List Lab):series_New (n+7) c l=some (newV c l):=by
  rw[series_New_eq,conf_check (n+3) c,label_check n l]
  unfold newV
  by_cases h:OkC c
  case neg=>rw[if_neg h,if_neg h];rfl
  rw[if_pos h,if_pos h]
  simp only[obs,decide_true,Bool.not_true,tff]
  by_cases h1:LabOk l
  case neg=>rw[if_neg h1,if_neg h1];rfl
  rw[if_pos h1,if_pos h1,clone_label (n+5) l (by have:=h1.n1;omega),fold_empty (n+2) c]
  rfl
abbrev Sta:=Conf×(Int×(Int×List Ser))
structure StaW (s:Sta):Prop where
  len:s.2.2.2.length≤9223372036854775807
  ser:∀x∈s.2.2.2,SerW x∧SerM x
def Whole (s:Sta):Prop:=OkC s.1∧(s.2.2.2.length:Int)=s.1.2.2.2.1
noncomputable instance (s):Decidable (Whole s):=Classical.propDecidable _
def LvX (s:Sta) (x:Ser):Prop:=x≠ser0∧(s.2.2.1 = -1∨deadV s.1 x.2.1 s.2.2.1=false)
noncomputable instance (s x):Decidable (LvX s x):=Classical.propDecidable _
def TimeP (t:Int):Prop:=0≤t∧t<35184372088832
instance (t):Decidable (TimeP t):=by unfold TimeP;infer_instance
def Clock (s:Sta):Prop:=TimeP s.2.1∧(s.2.2.1 = -1∨TimeP s.2.2.1)∧s.2.2.1≤s.2.1
instance (s):Decidable (Clock s):=by unfold Clock;infer_instance
def mk (s:Sta):Int:=s.2.1 / s.1.2.1.1*s.1.2.1.1
def Twin (s:Sta) (i:Nat) (x:Ser):Prop:=LvX s x∧∃k,k<i∧∃y,s.2.2.2[k]? = some y∧LvX s y∧y.1=x.1
noncomputable instance (s i x):Decidable (Twin s i x):=Classical.propDecidable _
def RightX (s:Sta) (i:Nat) (x:Ser):Prop:=x=ser0∨(SerOk s.1 x∧0≤x.2.1∧x.2.1<mk s+s.1.2.1.1∧¬Twin s i x)
noncomputable instance (s i x):Decidable (RightX s i x):=Classical.propDecidable _
structure StaOk (s:Sta):Prop where
  whole:Whole s
  clock:Clock s
  right:∀(i:Nat) x,s.2.2.2[i]? = some x→RightX s i x
noncomputable instance (s):Decidable (StaOk s):=Classical.propDecidable _
theorem Whole.len {s:Sta} (h:Whole s):s.2.2.2.length≤65536:=by
  have:=h.1.rng.cap;have:=h.2;omega
theorem at_el {α:Type} {l:List α} {i:Nat} {x:α} (h:l[i]? = some x):at? l (i:Int)=some x:=by
  unfold at?
  rw[decide_eq_true (show (0:Int)≤(i:Int) by omega),Int.toNat_natCast]
  exact h
theorem StaW.at {s:Sta} (h:StaW s) {i:Nat} {x:Ser} (hx:s.2.2.2[i]? = some x):SerW x∧SerM x:=h.ser x (List.mem_of_getElem? hx)
theorem ser0_m:SerM ser0:=⟨by simp[ser0],by simp[ser0,r0w],by simp[ser0],by simp[ser0],by simp[ser0]⟩
theorem st_empty (n:Nat) {x:Ser} (h:SerM x):stt_empty (n+4) x=some (decide (x=ser0)):=by
  have:=series_same n x ser0 h
  rw[stt_empty_eq]
  have e:series_Same (n+3) x ([],((0:Int),(((0:Int),((0:Int),[])),(([],([],[])),((0:Int),z0)))))=some (decide (x=ser0)):=this
  change obind (series_Same (n+3) x ([],((0:Int),(((0:Int),((0:Int),[])),(([],([],[])),((0:Int),z0)))))) _=_
  rw[e];rfl
theorem r17_empty (n:Nat) {x:Ser} (h:SerM x):r17_Empty (n+4) x=some (decide (x=ser0)):=by
  have:=r15_same n x ser0 h
  rw[r17_Empty_eq]
  have e:r15_Same (n+3) x ([],((0:Int),(((0:Int),((0:Int),[])),(([],([],[])),((0:Int),z0)))))=some (decide (x=ser0)):=this
  change obind (r15_Same (n+3) x ([],((0:Int),(((0:Int),((0:Int),[])),(([],([],[])),((0:Int),z0)))))) _=_
  rw[e];rfl
theorem st_lives (n:Nat) {s:Sta} {i:Nat} {x:Ser} (hx:s.2.2.2[i]? = some x) (hm:SerM x):stt_view_lives (n+7) s (i:Int)=some (decide (LvX s x)):=by
  rw[stt_view_lives_eq,at_el hx,obs,st_empty (n+2) hm,obs,tfn,tfd,series_dead n]
  by_cases h:x=ser0
  · rw[if_pos h,decide_eq_false (fun k:LvX s x=>k.1 h)]
  rw[if_neg h,tfd]
  by_cases h1:s.2.2.1 = -1
  · rw[if_pos h1,decide_eq_true (show LvX s x from ⟨h,.inl h1⟩)]
  · rw[if_neg h1]
    cases hd:deadV s.1 x.2.1 s.2.2.1
    · rw[decide_eq_true (show LvX s x from ⟨h,.inr hd⟩)];rfl
    · rw[decide_eq_false (fun k:LvX s x=>by rcases k.2 with k | k;exact h1 k;rw[hd] at k;cases k)];rfl
theorem r17_lives_val (n:Nat) {s:Sta} {i:Nat} {x:Ser} (hx:s.2.2.2[i]? = some x) (hm:SerM x):r17_lives (n+6) s (i:Int)=some (decide (LvX s x)):=by
  rw[r17_lives_eq,at_el hx,obs,r17_empty (n+1) hm,obs,tfn,tfd,obs,r15_dead n]
  by_cases h:x=ser0
  · rw[if_pos h,decide_eq_false (fun k:LvX s x=>k.1 h)]
  rw[if_neg h,tfd]
  by_cases h1:s.2.2.1 = -1
  · rw[if_pos h1,decide_eq_true (show LvX s x from ⟨h,.inl h1⟩)]
  · rw[if_neg h1]
    cases hd:deadV s.1 x.2.1 s.2.2.1
    · rw[decide_eq_true (show LvX s x from ⟨h,.inr hd⟩)];rfl
    · rw[decide_eq_false (fun k:LvX s x=>by rcases k.2 with k | k;exact h1 k;rw[hd] at k;cases k)];rfl
theorem place_l (n:Nat) (is:(Int×Unit)→Option Bool) (p:Nat→Bool) (L:Nat) (hL:L≤1000000) (his:∀k:Nat,k<L→is ((k:Int),())=some (p k)):∀(d k f:Nat),k+d=L→d<f →
    (∃m:Nat,k≤m∧m<L∧p m=true∧(∀j,k≤j→j<m→p j=false)∧stt_view_place_l2 n f (is,(L:Int),(k:Int),())=some (.inr (m:Int))) ∨
    ((∀j,k≤j→j<L→p j=false)∧stt_view_place_l2 n f (is,(L:Int),(k:Int),())=some (.inl ())):=by
  intro d
  induction d with
  | zero =>
    intro k f hk hf
    obtain ⟨f,rfl⟩:∃g,f=g+1:=⟨f-1,by omega⟩
    refine .inr ⟨fun j h1 h2=>by omega,?_⟩
    rw[stt_view_place_l2_eq,decide_eq_false (by omega),tff]
  | succ d ih =>
    intro k f hk hf
    obtain ⟨f,rfl⟩:∃g,f=g+1:=⟨f-1,by omega⟩
    rw[stt_view_place_l2_eq,decide_eq_true (by omega),tft,his k (by omega),obs]
    cases hp:p k
    · rw[tff,w64 (by omega) (by omega),show ((k:Int)+1)=((k+1:Nat):Int) by omega]
      rcases ih (k+1) f (by omega) (by omega) with ⟨m,h1,h2,h3,h4,h5⟩ | ⟨h1,h2⟩
      · exact .inl ⟨m,by omega,h2,h3,fun j q1 q2=>by
          rcases Nat.lt_or_ge k j with q | q
          · exact h4 j (by omega) q2
          · rw[show j=k by omega];exact hp,h5⟩
      · exact .inr ⟨fun j q1 q2=>by
          rcases Nat.lt_or_ge k j with q | q
          · exact h1 j (by omega) q2
          · rw[show j=k by omega];exact hp,h2⟩
    · rw[tft]
      exact .inl ⟨k,Nat.le_refl _,by omega,hp,fun j q1 q2=>by omega,rfl⟩
theorem first_val (n:Nat) (s:Sta) (is:(Int×Unit)→Option Bool) (p:Nat→Bool) (hL:s.2.2.2.length≤1000000) (his:∀k:Nat,k<s.2.2.2.length→is ((k:Int),())=some (p k)) :
    (∃m:Nat,m<s.2.2.2.length∧p m=true∧(∀j,j<m→p j=false)∧stt_view_place (n+1) s is=some (m:Int)) ∨
    ((∀j,j<s.2.2.2.length→p j=false)∧stt_view_place (n+1) s is=some (-1)):=by
  rw[stt_view_place_eq]
  rcases place_l n is p _ hL his s.2.2.2.length 0 loopFuel (by omega) (by unfold loopFuel;omega) with ⟨m,h1,h2,h3,h4,h5⟩ | ⟨h1,h2⟩
  · refine .inl ⟨m,h2,h3,fun j q=>h4 j (by omega) q,?_⟩
    have h5':stt_view_place_l2 n loopFuel (is,(s.2.2.2.length:Int),(0:Int),())=some (.inr (m:Int)):=h5
    rw[h5'];rfl
  · refine .inr ⟨fun j q=>h1 j (by omega) q,?_⟩
    have h2':stt_view_place_l2 n loopFuel (is,(s.2.2.2.length:Int),(0:Int),())=some (.inl ()):=h2
    rw[h2'];rfl
theorem label_same (n:Nat) (a b:List Lab) (h:a.length≤9223372036854775807):label_Same (n+2) a b=some (decide (a=b)):=by
  rw[label_Same_eq,eq_sl_Equal_Label n a b h];rfl
def IsTw (s:Sta) (i k:Nat) (x:Ser):Prop:=k=i∨∃y,s.2.2.2[k]? = some y∧LvX s y∧y.1=x.1
noncomputable instance (s i k x):Decidable (IsTw s i k x):=Classical.propDecidable _
theorem st_twin (n:Nat) {s:Sta} (hw:StaW s) (hL:s.2.2.2.length≤1000000) {i:Nat} {x:Ser} (hx:s.2.2.2[i]? = some x):stt_view_twin (n+9) s (i:Int)=some (decide (Twin s i x)):=by
  have hil:i<s.2.2.2.length:=(List.getElem?_eq_some_iff.1 hx).1
  have hm:=(hw.at hx).2
  rw[stt_view_twin_eq]
  have his:∀k:Nat,k<s.2.2.2.length→(fun y0:Int×Unit=>stt_view_twin_1 (n+8) y0.1 (i:Int) s) ((k:Int),())=some (decide (IsTw s i k x)):=by
    intro k hk
    have hy:s.2.2.2[k]? = some s.2.2.2[k]:=List.getElem?_eq_getElem hk
    generalize s.2.2.2[k]=y at hy
    have hmy:=(hw.at hy).2
    show stt_view_twin_1 (n+8) (k:Int) (i:Int) s=_
    rw[stt_view_twin_1_eq,tfd,st_lives n hy hmy,obs,at_el hy,obs,at_el hx,obs,label_same (n+5) _ _ hmy.l,obs,tfd]
    by_cases h1:k=i
    · rw[if_pos (by rw[h1]),decide_eq_true (show IsTw s i k x from .inl h1)]
    rw[if_neg (by omega)]
    by_cases h2:LvX s y
    · rw[if_pos h2]
      refine congrArg some (decide_eq_decide.2 ⟨fun h3 => .inr ⟨y,hy,h2,h3⟩,fun h3 => ?_⟩)
      rcases h3 with h3 | ⟨z,z1,z2,z3⟩
      · exact absurd h3 h1
      · rw[hy] at z1;cases z1;exact z3
    · rw[if_neg h2,decide_eq_false]
      rintro (h3 | ⟨z,z1,z2,z3⟩)
      · exact h1 h3
      · rw[hy] at z1;cases z1;exact h2 z2
  rcases first_val (n+7) s (fun y0:Int×Unit=>stt_view_twin_1 (n+8) y0.1 (i:Int) s) (fun k=>decide (IsTw s i k x)) hL his with ⟨m,h1,h2,h3,h4⟩ | ⟨h1,h2⟩
  · rw[h4,obs,tfd,st_lives (n+1) hx hm]
    have h2:=of_decide_eq_true h2
    have hmi:m≤i:=by
      rcases Nat.lt_or_ge i m with q | q
      · have:=of_decide_eq_false (h3 i q);exact absurd (.inl rfl) this
      · exact q
    by_cases q:m<i
    · rw[if_pos (by omega),obs]
      refine congrArg some (decide_eq_decide.2 ⟨fun k=>⟨k,m,q,?_⟩,fun k=>k.1⟩)
      exact h2.resolve_left (by omega)
    · rw[if_neg (by omega),decide_eq_false]
      rintro ⟨k1,k,k2,k3⟩
      exact of_decide_eq_false (h3 k (by omega)) (.inr k3)
  · exact absurd (.inl rfl) (of_decide_eq_false (h1 i hil))
theorem mk_range {s:Sta} (h:TimeP s.2.1) (hw:1≤s.1.2.1.1∧s.1.2.1.1≤1099511627776):0≤mk s∧mk s≤s.2.1∧s.2.1<mk s+s.1.2.1.1∧s.2.1-s.2.1 % s.1.2.1.1=mk s:=by
  have e:=Int.mul_ediv_add_emod s.2.1 s.1.2.1.1
  have e1:=Int.emod_nonneg s.2.1 (show s.1.2.1.1≠0 by omega)
  have e2:=Int.emod_lt_of_pos s.2.1 (show 0<s.1.2.1.1 by omega)
  rw[Int.mul_comm] at e
  have e3:0≤mk s:=Int.mul_nonneg (Int.ediv_nonneg h.1 (by omega)) (by omega)
  unfold mk at *
  exact ⟨e3,by omega,by omega,by omega⟩
theorem st_mark (n:Nat) {s:Sta} (h:TimeP s.2.1) (hw:1≤s.1.2.1.1∧s.1.2.1.1≤1099511627776):stt_view_mark (n+1) s=some (mk s):=by
  have:=mk_range h hw
  have:=h.1;have:=h.2
  rw[stt_view_mark_eq,tfd,if_neg (by omega),tmod_nn h.1,w64 (by omega) (by omega),(mk_range h hw).2.2.2]
theorem st_right (n:Nat) {s:Sta} (hw:StaW s) (hh:Whole s) (ht:TimeP s.2.1) {i:Nat} {x:Ser} (hx:s.2.2.2[i]? = some x):stt_view_right (n+12) s (i:Int)=some (decide (RightX s i x)):=by
  have hm:=hw.at hx
  have hr:=hh.1.rng
  have hL:=hh.len
  have hmk:=mk_range ht hr.w0
  have ht1:=ht.1;have ht2:=ht.2;have hw0:=hr.w0
  obtain ⟨m1,m2,m3,m4⟩:=hmk
  rw[stt_view_right_eq,at_el hx,obs,st_empty (n+7) hm.2,obs,tfd,series_check n s.1 hm.1,obs,st_mark (n+10) ht hr.w0,obs,w64 (by omega) (by omega),st_twin (n+2) hw (by omega) hx,obs]
  simp only[tfd]
  by_cases h0:x=ser0
  · rw[if_pos h0,decide_eq_true (show RightX s i x from .inl h0)]
  rw[if_neg h0]
  by_cases h1:SerOk s.1 x
  case neg=>rw[if_neg h1,if_neg (by decide),decide_eq_false (fun q:RightX s i x=>by rcases q with k | k;exact h0 k;exact h1 k.1)]
  rw[if_pos h1,if_pos rfl]
  by_cases h2:0≤x.2.1
  case neg=>rw[if_neg h2,decide_eq_false (fun q:RightX s i x=>by rcases q with k | k;exact h0 k;exact h2 k.2.1)]
  rw[if_pos h2]
  by_cases h3:x.2.1<mk s+s.1.2.1.1
  case neg=>rw[if_neg h3,decide_eq_false (fun q:RightX s i x=>by rcases q with k | k;exact h0 k;exact h3 k.2.2.1)]
  rw[if_pos h3]
  by_cases h4:Twin s i x
  · rw[decide_eq_true h4,decide_eq_false (fun q:RightX s i x=>by rcases q with k | k;exact h0 k;exact k.2.2.2 h4)];rfl
  · rw[decide_eq_false h4,decide_eq_true (show RightX s i x from .inr ⟨h1,h2,h3,h4⟩)];rfl
def sta0:Sta:=(((0:Int),(((0:Int),((0:Int),(0:Int))),(((0:Int),((0:Int),(0:Int))),((0:Int),(0:Int))))),((0:Int),((0:Int),[])))
theorem st_open (n:Nat) (s:Sta):stt_open (n+4) s=some (if Whole s then (s,0) else (sta0,2)):=by
  rw[stt_open_eq,conf_check n s.1,obs,tfn,tfd,tfn,tfd]
  by_cases h:OkC s.1
  case neg=>rw[if_neg h,if_neg (show ¬((2:Int)=0) by decide),if_neg (fun k:Whole s=>h k.1)];rfl
  rw[if_pos h,if_pos rfl]
  by_cases h1:(s.2.2.2.length:Int)=s.1.2.2.2.1
  · rw[if_pos h1,if_pos (show Whole s from ⟨h,h1⟩)]
  · rw[if_neg h1,if_neg (fun k:Whole s=>h1 k.2)];rfl
theorem st_time (n:Nat) (t:Int):stt_time (n+1) t=some (decide (TimeP t)):=by
  rw[stt_time_eq,tfd]
  by_cases h:0≤t
  · rw[if_pos h];exact congrArg some (decide_eq_decide.2 ⟨fun k=>⟨h,k⟩,fun k=>k.2⟩)
  · rw[if_neg h,decide_eq_false (fun k:TimeP t=>h k.1)]
theorem st_clock (n:Nat) (s:Sta):stt_view_clock (n+2) s=some (decide (Clock s)):=by
  rw[stt_view_clock_eq,st_time n,st_time n,obs,obs]
  simp only[tfd]
  by_cases h:TimeP s.2.1
  case neg=>rw[if_neg h,decide_eq_false (fun k:Clock s=>h k.1)]
  rw[if_pos h]
  by_cases h1:s.2.2.1 = -1
  · rw[if_pos h1];exact congrArg some (decide_eq_decide.2 ⟨fun k=>⟨h,.inl h1,k⟩,fun k=>k.2.2⟩)
  rw[if_neg h1]
  by_cases h2:TimeP s.2.2.1
  · rw[if_pos h2];exact congrArg some (decide_eq_decide.2 ⟨fun k=>⟨h,.inr h2,k⟩,fun k=>k.2.2⟩)
  · rw[if_neg h2,decide_eq_false (fun k:Clock s=>by rcases k.2.1 with q | q;exact h1 q;exact h2 q)]
def Wrong (s:Sta) (k:Nat):Prop:=∃x,s.2.2.2[k]? = some x∧¬RightX s k x
noncomputable instance (s k):Decidable (Wrong s k):=Classical.propDecidable _
theorem stt_check (n:Nat) {s:Sta} (hw:StaW s):stt_Check (n+14) s=some (if StaOk s then 0 else 2):=by
  rw[stt_Check_eq,st_open (n+9) s,obs,tfn,tfd]
  by_cases h:Whole s
  case neg=>rw[if_neg h,if_neg (show ¬((sta0,(2:Int)).2=0) by decide),if_neg (fun k:StaOk s=>h k.whole)]
  rw[if_pos h,if_pos rfl,st_clock (n+11) s,obs,tfn,tfd]
  by_cases h1:Clock s
  case neg=>rw[if_neg h1,if_neg (fun k:StaOk s=>h1 k.clock)]
  rw[if_pos h1]
  have hL:=h.len
  have his:∀k:Nat,k<s.2.2.2.length→(fun y2:Int×Unit=>stt_Check_1 (n+13) y2.1 s) ((k:Int),())=some (decide (Wrong s k)):=by
    intro k hk
    have hy:s.2.2.2[k]? = some s.2.2.2[k]:=List.getElem?_eq_getElem hk
    generalize s.2.2.2[k]=y at hy
    show stt_Check_1 (n+13) (k:Int) s=_
    rw[stt_Check_1_eq,st_right n hw h h1.1 hy,obs]
    by_cases q:RightX s k y
    · rw[decide_eq_true q,decide_eq_false (fun z:Wrong s k=>by obtain ⟨x,x1,x2⟩:=z;rw[hy] at x1;cases x1;exact x2 q)];rfl
    · rw[decide_eq_false q,decide_eq_true (show Wrong s k from ⟨y,hy,q⟩)];rfl
  rcases first_val (n+12) s (fun y2:Int×Unit=>stt_Check_1 (n+13) y2.1 s) (fun k=>decide (Wrong s k)) (by omega) his with ⟨m,q1,q2,q3,q4⟩ | ⟨q1,q2⟩
  · rw[show (fun y2:Int×Unit=>stt_Check_1 (n+13) y2.1 (s,(0:Int)).1)=fun y2:Int×Unit=>stt_Check_1 (n+13) y2.1 s from rfl]
    obtain ⟨x,x1,x2⟩:=of_decide_eq_true q2
    rw[q4,obs,tfd,if_pos (by omega),if_neg (fun k:StaOk s=>x2 (k.right m x x1))]
  · rw[show (fun y2:Int×Unit=>stt_Check_1 (n+13) y2.1 (s,(0:Int)).1)=fun y2:Int×Unit=>stt_Check_1 (n+13) y2.1 s from rfl]
    rw[q2,obs,tfd,if_neg (by decide),if_pos]
    refine ⟨h,h1,fun i x hx => ?_⟩
    have:=of_decide_eq_false (q1 i (List.getElem?_eq_some_iff.1 hx).1)
    exact Decidable.byContradiction fun k=>this ⟨x,hx,k⟩
theorem r17_whole_val (n:Nat) (s:Sta):r17_whole (n+4) s=some (decide (Whole s)):=by
  rw[r17_whole_eq,r10_check n s.1,obs,tfd]
  by_cases h:OkC s.1
  case neg=>rw[if_neg h,if_neg (show ¬((2:Int)=0) by decide),decide_eq_false (fun k:Whole s=>h k.1)]
  rw[if_pos h,if_pos rfl]
  exact congrArg some (decide_eq_decide.2 ⟨fun k=>⟨h,k⟩,fun k=>k.2⟩)
end Go.Proofs.YtjeabebacegikaaGreatDoor
namespace Go.Proofs.YtjeabebacegikaaGreatDoor
open Go.Flat Go.Plim
set_option linter.unusedVariables false
def OpenInv (c:Conf) (s:Trs) (o:Slo) (l:List Ev):Prop :=
  (l=[]∧o=s0∧∀t,FInv c s [] t)∨∃t,EndsAt l t∧FInv c s l t∧o=(t / c.2.1.1,cellOf (win c.2.1.1 l (t / c.2.1.1)))
theorem emp_inv {c:Conf} (h:OkC c):OpenInv c (emp c) s0 []:=by
  have hr:=h.rng
  have n0:=hr.n0;have n1:=hr.n1;have n2:=hr.n2
  refine .inl ⟨rfl,rfl,fun t => ?_⟩
  have e:emp c=(List.replicate c.2.2.1.1.toNat s0,(List.replicate c.2.2.1.2.1.toNat s0,List.replicate c.2.2.1.2.2.toNat s0)):=if_pos h
  have i0:TierInv (List.replicate c.2.2.1.1.toNat s0) c.2.1.1 []:=tierInv_nil (by omega) (by omega) hr.w0.1 hr.w0.2
  have i1:TierInv (List.replicate c.2.2.1.2.1.toNat s0) c.2.1.2.1 []:=tierInv_nil (by omega) (by omega) hr.w1.1 hr.w1.2
  have i2:TierInv (List.replicate c.2.2.1.2.2.toNat s0) c.2.1.2.2 []:=tierInv_nil (by omega) (by omega) hr.w2.1 hr.w2.2
  rw[e]
  exact ⟨⟨h,by simp;omega,by simp;omega,by simp;omega,i0.ok,i1.ok,i2.ok⟩,i0,i1,i2⟩
theorem OpenInv.fold {c:Conf} {s:Trs} {o:Slo} {l:List Ev} (h:OpenInv c s o l):FoldOk c s:=by
  rcases h with ⟨_,_,h⟩ | ⟨t,_,h,_⟩
  · exact (h 0).ok
  · exact h.ok
theorem ends_snoc {l:List Ev} {e:Ev} (h:Foll (l++[e])):EndsAt (l++[e]) e.1 :=
  ⟨h,fun x hx=>by
    rcases List.mem_append.1 hx with hx | hx
    · have:=(foll_append.1 h).2.2 x hx e (by simp);omega
    · simp at hx;rw[hx];exact Int.le_refl _,⟨e,by simp,rfl⟩⟩
theorem ev_begins {e:Ev} (h:EvOk e) {w:Int} (hw:1≤w):Begins w (e.1 / w):=div_begins hw ⟨h.t0,by have:=h.t1;omega⟩
def Turn (o:Slo) (i:Int):Prop:=0<o.2.1∧o.1≠i
theorem openInv_turn {c:Conf} {s:Trs} {o:Slo} {l:List Ev} {e:Ev} (h:OpenInv c s o l) (hf:Foll (l++[e])) (ht:Turn o (e.1 / c.2.1.1)) :
    ∃s',closeE c s o (e.1 / c.2.1.1)=(s',0)∧mrgE z0 (evCell e)=(evCell e,0)∧OpenInv c s' (e.1 / c.2.1.1,evCell e) (l++[e]):=by
  rcases h with ⟨_,ho,_⟩ | ⟨t,he,hi,ho⟩
  · have:=ht.1;rw[ho] at this;simp[s0,z0] at this
  have hr:=hi.ok.cok.rng
  have hoe:=hf.ok e (by simp)
  have o1:o.1=t / c.2.1.1:=by rw[ho]
  have o2:o.2=cellOf (win c.2.1.1 l (t / c.2.1.1)):=by rw[ho]
  have hne:t / c.2.1.1≠e.1 / c.2.1.1:=by rw[←o1];exact ht.2
  obtain ⟨x,hx,hxt⟩:=he.last
  have htu:t<e.1:=by have:=(foll_append.1 hf).2.2 x hx e (by simp);omega
  obtain ⟨hfit,hfi⟩:=finv_close hi he htu hne
  have hle:t / c.2.1.1≤e.1 / c.2.1.1:=Int.ediv_le_ediv (by have:=hr.w0;omega) (by omega)
  refine ⟨_,?_,mrgE_z0 (evCell_N hoe).ok,.inr ⟨e.1,ends_snoc hf,finv_snoc hfi,?_⟩⟩
  · unfold closeE
    rw[if_pos hi.ok,if_neg (fun k:o=s0=>by have:=ht.1;rw[k] at this;simp[s0,z0] at this),o1,o2,if_pos hfit,if_neg hne,if_pos ⟨hle,ev_begins hoe hr.w0.1⟩]
  · rw[win_snoc,if_pos rfl]
    have:win c.2.1.1 l (e.1 / c.2.1.1)=[]:=by
      unfold win
      rw[List.filter_eq_nil_iff]
      intro y hy
      have:=he.wle hr.w0.1 y hy
      simp;omega
    rw[this,List.nil_append,cellOf_one]
theorem openInv_stay {c:Conf} {s:Trs} {o:Slo} {l:List Ev} {e:Ev} (h:OpenInv c s o l) (hf:Foll (l++[e])) (ht:¬Turn o (e.1 / c.2.1.1)) :
    CellOk o.2∧(mrgE o.2 (evCell e)).2=0∧OpenInv c s (e.1 / c.2.1.1,(mrgE o.2 (evCell e)).1) (l++[e]):=by
  have hoe:=hf.ok e (by simp)
  rcases h with ⟨hl,ho,hi⟩ | ⟨t,he,hi,ho⟩
  · subst hl
    have e2:o.2=z0:=by rw[ho];rfl
    rw[e2,mrgE_z0 (evCell_N hoe).ok]
    refine ⟨ok_z0,rfl,.inr ⟨e.1,ends_snoc hf,finv_snoc (hi e.1),?_⟩⟩
    rw[win_snoc,if_pos rfl]
    have:win c.2.1.1 [] (e.1 / c.2.1.1)=[]:=rfl
    rw[this,List.nil_append,cellOf_one]
  · have hr:=hi.ok.cok.rng
    have o1:o.1=t / c.2.1.1:=by rw[ho]
    have o2:o.2=cellOf (win c.2.1.1 l (t / c.2.1.1)):=by rw[ho]
    obtain ⟨hf0,_⟩:=tierInv_close he hi.i0
    have hw:t / c.2.1.1=e.1 / c.2.1.1:=by
      by_cases k:o.1=e.1 / c.2.1.1
      · rw[←o1];exact k
      · exact absurd ⟨by rw[o2];have:=hf0.n.n1;omega,k⟩ ht
    have hwf:Foll (win c.2.1.1 l (e.1 / c.2.1.1)++[e]):=by
      have:=win_foll (w:=c.2.1.1) hf (e.1 / c.2.1.1)
      rwa [win_snoc,if_pos rfl] at this
    have hm:=(mrgE_snoc (foll_append.1 hwf).1 hoe).1 hwf
    rw[o2,hw,hm]
    refine ⟨cellOf_ok (foll_append.1 hwf).1,rfl,.inr ⟨e.1,ends_snoc hf,finv_stay hi hw,?_⟩⟩
    rw[win_snoc,if_pos rfl]
end Go.Proofs.YtjeabebacegikaaGreatDoor
namespace Go.Proofs.YtjeabebacegikaaGreatDoor
open Go.Flat Go.Plim
set_option linter.unusedVariables false
set_option linter.unusedSimpArgs false
def rawOf (room:Int) (l:List Ev):Rw :=
  (if (l.length:Int)≤room then 0 else (l.length:Int)-room,(if (l.length:Int)≤room then 0 else ((l[l.length-room.toNat-1]?).getD e0).1,l.drop (l.length-room.toNat)))
theorem rawOf_len {room:Int} (h:1≤room) (l:List Ev):((rawOf room l).2.2.length:Int)=if (l.length:Int)≤room then (l.length:Int) else room:=by
  simp only[rawOf,List.length_drop]
  split<;>omega
theorem rawOf_next {room:Int} (h:1≤room) (l:List Ev) (e:Ev):rawNext (rawOf room l) room e=rawOf room (l++[e]):=by
  have hlen:=rawOf_len h l
  unfold rawNext
  by_cases h1:(l.length:Int)<room
  · rw[if_pos (Int.le_of_lt h1)] at hlen
    rw[if_pos (by omega)]
    simp only[rawOf,List.length_append,List.length_cons,List.length_nil]
    rw[if_pos (Int.le_of_lt h1),if_pos (Int.le_of_lt h1),if_pos (by omega),if_pos (by omega),show l.length-room.toNat=0 by omega,show l.length+(0+1)-room.toNat=0 by omega]
    rfl
  · rw[if_neg (by rw[hlen];split<;>omega)]
    obtain ⟨d,hd⟩:∃d,d=l.length-room.toNat:=⟨_,rfl⟩
    have hdl:d<l.length:=by omega
    have e1:(l++[e]).length-room.toNat=d+1:=by simp;omega
    have e2:¬(((l++[e]).length:Nat):Int)≤room:=by simp;omega
    unfold rawOf
    rw[if_neg e2,if_neg e2,e1,show d+1-1=d by omega,←hd,List.getElem?_append_left hdl,List.drop_append_of_le_length (by omega)]
    simp only[List.drop_drop,List.headD_eq_head?_getD,List.head?_drop]
    refine Prod.ext ?_ rfl
    simp only[List.length_append,List.length_cons,List.length_nil]
    split<;>omega
theorem rawOf_last {room:Int} (h:1≤room) (l:List Ev):(rawOf room l).2.2.getLast? = l.getLast? := by
  simp only[rawOf,List.getLast?_drop]
  by_cases h0:l=[]
  · subst h0;simp
  · have:0<l.length:=List.length_pos_iff.2 h0
    rw[if_neg (by omega)]
theorem rawOf_ok {room:Int} (h:1≤room∧room≤4096) {l:List Ev} (hl:Foll l) (hL:l.length≤1000000):RawOk (rawOf room l) room:=by
  have hlen:=rawOf_len h.1 l
  refine ⟨h.1,h.2,by rw[hlen];split<;>omega,?_,?_,?_,?_,?_⟩
  · simp only[rawOf];split<;>omega
  · simp only[rawOf];split<;>omega
  · exact hl.sub (List.drop_sublist _ _)
  · simp only[rawOf]
    intro k
    split
    · rfl
    · rename_i h1;rw[if_neg h1] at k;omega
  · intro k
    simp only[rawOf] at k hlen ⊢
    by_cases h1:(l.length:Int)≤room
    · rw[if_pos h1] at k;exact absurd rfl k
    rw[if_neg h1] at hlen ⊢
    obtain ⟨d,hd⟩:∃d,l.length-room.toNat=d+1:=⟨l.length-room.toNat-1,by omega⟩
    rw[hd,show d+1-1=d by omega]
    have hdl:d<l.length:=by omega
    have hdl':d+1<l.length:=by omega
    rw[List.getElem?_eq_getElem hdl]
    refine ⟨by rw[←hlen,hd],((hl.ok _ (List.getElem_mem hdl)).t0),fun x hx => ?_⟩
    rw[List.head?_drop,List.getElem?_eq_getElem hdl'] at hx
    have:=List.pairwise_iff_getElem.1 hl.inc d (d+1) hdl hdl' (by omega)
    simp at hx
    rw[←hx];exact this
structure SerInv (c:Conf) (s:Ser) (l:List Ev):Prop where
  lab:LabOk s.1
  len:l.length≤1000000
  raw:s.2.2.1=rawOf c.1 l
  opn:OpenInv c s.2.2.2.1 s.2.2.2.2 l
  last:(l=[]∧s.2.1 = -1)∨EndsAt l s.2.1
theorem SerInv.foll {c:Conf} {s:Ser} {l:List Ev} (h:SerInv c s l):Foll l:=by
  rcases h.last with ⟨rfl,_⟩ | h
  · exact Foll.nil
  · exact h.foll
theorem ends_getLast {l:List Ev} {t:Int} (h:EndsAt l t):∃e,l.getLast? = some e∧e.1=t:=by
  obtain ⟨x,hx,hxt⟩:=h.last
  rcases List.eq_nil_or_concat l with rfl | ⟨p,y,rfl⟩
  · cases hx
  rw[List.concat_eq_append] at *
  have h1:=h.le y (by simp)
  refine ⟨y,by simp,?_⟩
  rcases List.mem_append.1 hx with q | q
  · have:=(foll_append.1 h.foll).2.2 x q y (by simp);omega
  · simp at q;rw[←q];exact hxt
theorem ends_uniq {l:List Ev} {t u:Int} (h:EndsAt l t) (k:EndsAt l u):t=u:=by
  obtain ⟨e,h1,h2⟩:=ends_getLast h
  obtain ⟨e',k1,k2⟩:=ends_getLast k
  rw[h1] at k1;simp at k1;rw[←h2,←k2,k1]
theorem ends_ne {l:List Ev} {t:Int} (h:EndsAt l t):l≠[]:=by
  obtain ⟨x,hx,_⟩:=h.last
  exact List.ne_nil_of_mem hx
theorem SerInv.at_ {c:Conf} {s:Ser} {l:List Ev} (h:SerInv c s l) (hl:l≠[]):EndsAt l s.2.1∧FInv c s.2.2.2.1 l s.2.1∧s.2.2.2.2=(s.2.1 / c.2.1.1,cellOf (win c.2.1.1 l (s.2.1 / c.2.1.1))):=by
  have he:=h.last.resolve_left fun k=>hl k.1
  rcases h.opn with k | ⟨t,k1,k2,k3⟩
  · exact absurd k.1 hl
  · have:=ends_uniq he k1
    subst this
    exact ⟨he,k2,k3⟩
theorem tall_none {t:List Slo} {w:Int} (h:TierInv t w []):tall t=[]:=by
  cases hc:tall t with
  | nil=>rfl
  | cons x r =>
    have hx:x∈tall t:=by rw[hc];simp
    have h1:=h.cells x hx
    have:=(tall_fits h.ok hx).1.n.n1
    rw[h1] at this
    simp[win,cellOf,z0] at this
theorem behind_below {t:List Slo} {w u:Int} {l:List Ev} (h:TierInv t w (below w l u)) (hl:Foll l):NoBehind t (u / w):=by
  rw[noBehind_iff h.ok]
  intro x hx
  have h1:=h.cells x hx
  have hn:=(tall_fits h.ok hx).1.n
  have hne:win w (below w l u) x.1≠[]:=fun k=>by
    rw[k] at h1
    exact hn.ne h1
  obtain ⟨e,he⟩:=List.exists_mem_of_ne_nil _ hne
  obtain ⟨k1,k2⟩:=mem_win.1 he
  have:=of_decide_eq_true (List.mem_filter.1 k1).2
  omega
theorem cellOf_lastT {w T:Int} {l:List Ev} (he:EndsAt l T):(cellOf (win w l (T / w))).2.2.1.1=T:=by
  obtain ⟨x,hx,hxt⟩:=he.last
  have hm:x∈win w l (T / w):=mem_win.2 ⟨hx,by rw[hxt]⟩
  have hw:=win_foll (w:=w) he.foll (T / w)
  have hh:=cellOf_N hw (List.ne_nil_of_mem hm)
  have ew:EndsAt (win w l (T / w)) T:=⟨hw,fun y hy=>he.le y (mem_win.1 hy).1,x,hm,hxt⟩
  obtain ⟨e,k1,k2⟩:=ends_getLast ew
  have:=hh.last
  rw[k1] at this
  simp at this
  rw[←this,k2]
theorem serInv_ok {c:Conf} {s:Ser} {l:List Ev} (h:SerInv c s l):SerOk c s:=by
  have hf:=h.opn.fold
  have hr:=hf.cok.rng
  have hraw:RawOk s.2.2.1 c.1:=by rw[h.raw];exact rawOf_ok hr.raw h.foll h.len
  refine ⟨hf,h.lab,hraw,?_⟩
  by_cases hl:l=[]
  · subst hl
    refine .inl ?_
    have hlast:=h.last.resolve_right fun k=>ends_ne k rfl
    rcases h.opn with ⟨_,k1,k2⟩ | ⟨t,k1,_⟩
    · have:=k2 0
      exact ⟨hlast.2,by rw[h.raw];simp[rawOf],k1,(noBehind0 this.ok.t0).2 (tall_none this.i0),(noBehind0 this.ok.t1).2 (tall_none this.i1),(noBehind0 this.ok.t2).2 (tall_none this.i2)⟩
    · exact absurd rfl (ends_ne k1)
  · obtain ⟨he,hi,ho⟩:=h.at_ hl
    obtain ⟨x,hx,hxt⟩:=he.last
    have:=(he.foll.ok x hx).t0
    refine .inr ⟨by omega,?_,?_,?_,behind_below hi.i0 he.foll,behind_below hi.i1 he.foll,behind_below hi.i2 he.foll⟩
    · rw[h.raw,rawOf_last hr.raw.1];exact ends_getLast he
    · rw[ho];exact cellOf_lastT he
    · rw[ho];exact (tierInv_close he hi.i0).1
theorem serInv_w {c:Conf} {s:Ser} {l:List Ev} (h:SerInv c s l):SerW s:=by
  have hok:=serInv_ok h
  refine ⟨?_,fun e he=>EvW.of (hok.raw.f.ok e he),hok.fold.w,?_⟩
  · by_cases hn:s.2.1 = -1
    · rw[hn];unfold I64;omega
    · have:=serOk_at hok hn;unfold I64;omega
  · rcases h.opn with ⟨_,k,_⟩ | ⟨t,he,hi,ho⟩
    · rw[k];exact slow_s0
    · obtain ⟨x,hx,hxt⟩:=he.last
      have hxo:=he.foll.ok x hx
      have:=quo_ev_range hxo hi.ok.cok.rng.w0.1
      rw[hxt] at this
      rw[ho]
      exact ⟨by unfold I64;simp only;omega,.of (cellOf_ok (win_foll he.foll _))⟩
theorem serInv_next {c:Conf} {s:Ser} {l:List Ev} {e:Ev} (h:SerInv c s l) (hf:Foll (l++[e])) (hL:l.length<1000000):∃s',putE c s e=(s',0)∧SerInv c s' (l++[e]):=by
  have hok:=serInv_ok h
  have hr:=hok.fold.cok.rng
  have hoe:=hf.ok e (by simp)
  have hlt:s.2.1<e.1:=by
    rcases h.last with ⟨_,k⟩ | k
    · have:=hoe.t0;omega
    · obtain ⟨x,hx,hxt⟩:=k.last
      have:=(foll_append.1 hf).2.2 x hx e (by simp);omega
  have hraw:rawPut s.2.2.1 c.1 e=(rawOf c.1 (l++[e]),0):=by
    unfold rawPut
    rw[if_pos ⟨hok.raw,hoe⟩,if_pos,if_neg,h.raw,rawOf_next hr.raw.1]
    · rw[h.raw]
      intro k
      have:=k.2
      simp only[rawOf] at this
      split at this<;>omega
    · intro q hq
      rw[h.raw,rawOf_last hr.raw.1] at hq
      exact (foll_append.1 hf).2.2 q (List.mem_of_getLast? hq) e (by simp)
  have hT:TurnS s (e.1 / c.2.1.1)↔Turn s.2.2.2.2 (e.1 / c.2.1.1):=by
    unfold TurnS Turn
    have h0:0≤s.2.2.2.2.2.1:=by
      rcases h.opn with ⟨_,k,_⟩ | ⟨t,he,hi,ho⟩
      · rw[k];decide
      · rw[ho];exact (cellOf_ok (win_foll he.foll _)).count.2
    refine ⟨fun ⟨k1,k2⟩=>⟨?_,k2⟩,fun ⟨k1,k2⟩=>⟨fun k => ?_,k2⟩⟩
    · have:s.2.2.2.2.2.1≠0:=fun k=>k1 ((open_zero hok).1 k)
      omega
    · have:=(open_zero hok).2 k;omega
  have hend:EndsAt (l++[e]) e.1:=ends_snoc hf
  have hlen:(l++[e]).length≤1000000:=by simp;omega
  unfold putE
  rw[if_pos ⟨hok,hoe⟩,if_neg (by omega),hraw]
  by_cases ht:Turn s.2.2.2.2 (e.1 / c.2.1.1)
  · obtain ⟨s',h1,h2,h3⟩:=openInv_turn h.opn hf ht
    have htd:turned c s (e.1 / c.2.1.1)=((s',s0),0):=by
      unfold turned
      rw[if_pos (hT.2 ht),h1,if_pos rfl]
    have h2':mrgE s0.2 (evCell e)=(evCell e,0):=h2
    rw[htd,if_neg (nn rfl),if_neg (nn rfl),h2',if_neg (nn rfl)]
    exact ⟨_,rfl,h.lab,hlen,rfl,h3,.inr hend⟩
  · obtain ⟨h1,h2,h3⟩:=openInv_stay h.opn hf ht
    have htd:turned c s (e.1 / c.2.1.1)=((s.2.2.2.1,s.2.2.2.2),0):=by
      unfold turned
      rw[if_neg (fun k=>ht (hT.1 k))]
    rw[htd,if_neg (nn rfl),if_neg (nn rfl),if_neg (nn h2)]
    exact ⟨_,rfl,h.lab,hlen,rfl,h3,.inr hend⟩
theorem put_foll {c:Conf} {s:Ser} {l:List Ev} {e:Ev} (h:SerInv c s l) (hp:(putE c s e).2=0):Foll (l++[e]):=by
  unfold putE at hp
  by_cases h1:SerOk c s∧EvOk e
  case neg=>rw[if_neg h1] at hp;cases hp
  rw[if_pos h1] at hp
  by_cases h2:e.1≤s.2.1
  · rw[if_pos h2] at hp;cases hp
  refine foll_append.2 ⟨h.foll,⟨by simp[h1.2],by simp⟩,fun x hx y hy => ?_⟩
  simp at hy
  subst hy
  rcases h.last with ⟨k,_⟩ | k
  · rw[k] at hx;cases hx
  · have:=k.le x hx;omega
theorem open_merge {t:List Slo} {w T i j:Int} {l:List Ev} (h:TierInv t w (below w l T)) (he:EndsAt l T) (h0:0≤i) (hi:i≤T / w) (hj:T / w≤j) (hk:T / w≤i+(t.length:Int)) :
    mrgE (tfold t i j).1 (cellOf (win w l (T / w)))=(cellOf (rng w l i (T / w+1)),0):=by
  have hw:=h.ok.w0
  have hb:=below_foll (w:=w) he.foll T
  rw[tierInv_fold h hb h0 (by omega) (fun e hel=>by have:=of_decide_eq_true (List.mem_filter.1 hel).2;omega)]
  have e1:rng w (below w l T) i j=rng w l i (T / w):=by
    unfold rng below
    rw[List.filter_filter]
    refine List.filter_congr fun e hel => ?_
    rw[Bool.eq_iff_iff];simp;omega
  have e2:win w l (T / w)=rng w l (T / w) (T / w+1):=win_rng w l _
  rw[e1,e2]
  have hs:=rng_split hw he.foll (i:=i) (a:=T / w) (k:=T / w+1) hi (by omega)
  rw[hs]
  exact mrgE_append (by rw[←hs];exact rng_foll he.foll _ _)
theorem rng_all {w T i j:Int} {l:List Ev} (he:EndsAt l T) (hw:1≤w) (hj:T / w<j):rng w l i j=rng w l i (T / w+1):=by
  unfold rng
  refine List.filter_congr fun e hel => ?_
  have:=he.wle hw e hel
  rw[Bool.eq_iff_iff];simp;omega
theorem range_gen {t:List Slo} {w T i j:Int} {l:List Ev} {ok:Prop} [Decidable ok] (hok:ok) (h:TierInv t w (below w l T)) (he:EndsAt l T) (h0:0≤i) (hij:i≤j) (hk:T / w<i+(t.length:Int)) :
    rangeV ok i j T w t (cellOf (win w l (T / w)),0)=(cellOf (rng w l i j),0):=by
  have hw:=h.ok.w0
  have hb:=below_foll (w:=w) he.foll T
  obtain ⟨x,hx,hxt⟩:=he.last
  have hx0:=(he.foll.ok x hx).t0
  unfold rangeV
  rw[if_pos hok,if_neg (by omega),if_neg (by omega),if_neg (by omega)]
  have hfold:=tierInv_fold h hb h0 hij (fun e hel=>by have:=of_decide_eq_true (List.mem_filter.1 hel).2;omega)
  by_cases h1:T / w<i
  · rw[if_pos h1,hfold]
    have e1:rng w (below w l T) i j=[]:=rng_empty fun e hel=>by have:=of_decide_eq_true (List.mem_filter.1 hel).2;omega
    have e2:rng w l i j=[]:=rng_empty fun e hel=>by have:=he.wle hw e hel;omega
    rw[e1,e2]
  rw[if_neg h1]
  by_cases h2:j≤T / w
  · rw[if_pos h2,hfold]
    have e1:rng w (below w l T) i j=rng w l i j:=by
      unfold rng below
      rw[List.filter_filter]
      refine List.filter_congr fun e hel => ?_
      rw[Bool.eq_iff_iff];simp;omega
    rw[e1]
  rw[if_neg h2,if_neg (nn rfl),open_merge h he h0 (by omega) (by omega) (by omega),rng_all (j:=j) he hw (by omega)]
theorem factor_pos {a b:Int} (ha:1≤a) (hb:1≤b) (hm:b % a=0):0<b / a:=by
  rcases Int.lt_or_le 0 (b / a) with z | z
  · exact z
  · exfalso
    have e:a*(b / a)=b:=by have:=Int.mul_ediv_add_emod b a;omega
    have:a*(b / a)≤a*0:=Int.mul_le_mul_of_nonneg_left z (by omega)
    omega
theorem open_up {t:List Slo} {a b T:Int} {l:List Ev} (h:TierInv t a (below a l T)) (he:EndsAt l T) (ha:1≤a) (hb:1≤b) (hm:b % a=0) (hd:b / a≤(t.length:Int)) :
    mrgE (tfold t (T / b*(b / a)) (T / a)).1 (cellOf (win a l (T / a)))=(cellOf (win b l (T / b)),0):=by
  obtain ⟨x,hx,hxt⟩:=he.last
  have hx0:=(he.foll.ok x hx).t0
  have hp:=factor_pos ha hb hm
  have q:=(edvm (t:=T) ha hb hm).2
  have hT:0≤T / b:=Int.ediv_nonneg (by omega) (by omega)
  have u1:T / a<T / b*(b / a)+b / a:=by
    rw[←q]
    have:=Int.lt_ediv_add_one_mul_self (T / a) hp
    rw[Int.add_mul,Int.one_mul] at this
    exact this
  have u0:T / b*(b / a)≤T / a:=by
    rw[←q]
    exact Int.ediv_mul_le _ (by omega)
  rw[open_merge h he (Int.mul_nonneg hT (by omega)) u0 (Int.le_refl _) (by omega)]
  rw[←rng_all (j:=(T / b+1)*(b / a)) he ha (by rw[Int.add_mul,Int.one_mul];exact u1),win_rng_up ha hb hm]
theorem now1_val {c:Conf} {s:Ser} {l:List Ev} (h:SerInv c s l) (hl:l≠[]):now1 c s=(cellOf (win c.2.1.2.1 l (s.2.1 / c.2.1.2.1)),0):=by
  obtain ⟨he,hi,ho⟩:=h.at_ hl
  have hr:=hi.ok.cok.rng
  unfold now1
  rw[ho]
  exact open_up hi.i0 he hr.w0.1 hr.w1.1 hi.ok.cok.m1 (by rw[hi.ok.n0];exact hi.ok.cok.d1)
theorem now2_val {c:Conf} {s:Ser} {l:List Ev} (h:SerInv c s l) (hl:l≠[]):now2 c s=(cellOf (win c.2.1.2.2 l (s.2.1 / c.2.1.2.2)),0):=by
  obtain ⟨he,hi,ho⟩:=h.at_ hl
  have hr:=hi.ok.cok.rng
  unfold now2
  rw[now1_val h hl,if_neg (nn rfl)]
  exact open_up hi.i1 he hr.w1.1 hr.w2.1 hi.ok.cok.m2 (by rw[hi.ok.n1];exact hi.ok.cok.d2)
theorem inv_range0 {c:Conf} {s:Ser} {l:List Ev} (h:SerInv c s l) (hl:l≠[]) {i j:Int} (h0:0≤i) (hij:i≤j) (hk:s.2.1 / c.2.1.1<i+c.2.2.1.1) :
    rangeV (SerOk c s) i j s.2.1 c.2.1.1 s.2.2.2.1.1 (s.2.2.2.2.2,0)=(cellOf (rng c.2.1.1 l i j),0):=by
  obtain ⟨he,hi,ho⟩:=h.at_ hl
  rw[ho]
  exact range_gen (serInv_ok h) hi.i0 he h0 hij (by rw[hi.ok.n0];exact hk)
theorem inv_range1 {c:Conf} {s:Ser} {l:List Ev} (h:SerInv c s l) (hl:l≠[]) {i j:Int} (h0:0≤i) (hij:i≤j) (hk:s.2.1 / c.2.1.2.1<i+c.2.2.1.2.1) :
    rangeV (SerOk c s) i j s.2.1 c.2.1.2.1 s.2.2.2.1.2.1 (now1 c s)=(cellOf (rng c.2.1.2.1 l i j),0):=by
  obtain ⟨he,hi,ho⟩:=h.at_ hl
  rw[now1_val h hl]
  exact range_gen (serInv_ok h) hi.i1 he h0 hij (by rw[hi.ok.n1];exact hk)
theorem inv_range2 {c:Conf} {s:Ser} {l:List Ev} (h:SerInv c s l) (hl:l≠[]) {i j:Int} (h0:0≤i) (hij:i≤j) (hk:s.2.1 / c.2.1.2.2<i+c.2.2.1.2.2) :
    rangeV (SerOk c s) i j s.2.1 c.2.1.2.2 s.2.2.2.1.2.2 (now2 c s)=(cellOf (rng c.2.1.2.2 l i j),0):=by
  obtain ⟨he,hi,ho⟩:=h.at_ hl
  rw[now2_val h hl]
  exact range_gen (serInv_ok h) hi.i2 he h0 hij (by rw[hi.ok.n2];exact hk)
theorem new_inv {c:Conf} {l:List Lab} (h:OkC c) (hl:LabOk l):SerInv c (l,(-1,(r0w,(emp c,s0)))) [] :=
  ⟨hl,by simp,by have:=h.rng.raw;simp[rawOf,r0w];omega,emp_inv h,.inl ⟨rfl,rfl⟩⟩
noncomputable def findV (s:Sta) (l:List Lab):Option Nat:=s.2.2.2.findIdx? fun x=>decide (x.1=l∧LvX s x)
noncomputable def roomV (s:Sta):Option Nat:=s.2.2.2.findIdx? fun x=>decide (¬LvX s x)
noncomputable def lvAt (s:Sta) (i:Nat):Bool:=match s.2.2.2[i]? with | some x=>decide (LvX s x) | none=>false
noncomputable def liveV (s:Sta):List Nat:=(List.range s.2.2.2.length).filter (lvAt s)
theorem findV_some {s:Sta} {l:List Lab} {i:Nat}:findV s l=some i↔∃x,s.2.2.2[i]? = some x∧x.1=l∧LvX s x∧∀j,j<i→∀y,s.2.2.2[j]? = some y→¬(y.1=l∧LvX s y):=by
  unfold findV
  rw[List.findIdx?_eq_some_iff_getElem]
  constructor
  · rintro ⟨h,h1,h2⟩
    have h1:=of_decide_eq_true h1
    refine ⟨_,List.getElem?_eq_getElem h,h1.1,h1.2,fun j hj y hy => ?_⟩
    obtain ⟨hjl,e⟩:=List.getElem?_eq_some_iff.1 hy
    have:=h2 j hj
    rw[e] at this
    simpa using this
  · rintro ⟨x,hx,h1,h2,h3⟩
    obtain ⟨hl,e⟩:=List.getElem?_eq_some_iff.1 hx
    refine ⟨hl,by rw[e];exact decide_eq_true ⟨h1,h2⟩,fun j hj => ?_⟩
    have:=h3 j hj _ (List.getElem?_eq_getElem (by omega))
    simpa using this
theorem findV_none {s:Sta} {l:List Lab}:findV s l=none↔∀x∈s.2.2.2,¬(x.1=l∧LvX s x):=by
  unfold findV
  rw[List.findIdx?_eq_none_iff]
  simp
theorem roomV_some {s:Sta} {i:Nat}:roomV s=some i↔∃x,s.2.2.2[i]? = some x∧¬LvX s x∧∀j,j<i→∀y,s.2.2.2[j]? = some y→LvX s y:=by
  unfold roomV
  rw[List.findIdx?_eq_some_iff_getElem]
  constructor
  · rintro ⟨h,h1,h2⟩
    refine ⟨_,List.getElem?_eq_getElem h,of_decide_eq_true h1,fun j hj y hy => ?_⟩
    obtain ⟨hjl,e⟩:=List.getElem?_eq_some_iff.1 hy
    have:=h2 j hj
    rw[e] at this
    simpa using this
  · rintro ⟨x,hx,h1,h3⟩
    obtain ⟨hl,e⟩:=List.getElem?_eq_some_iff.1 hx
    refine ⟨hl,by rw[e];exact decide_eq_true h1,fun j hj => ?_⟩
    have:=h3 j hj _ (List.getElem?_eq_getElem (by omega))
    simpa using this
theorem roomV_none {s:Sta}:roomV s=none↔∀x∈s.2.2.2,LvX s x:=by
  unfold roomV
  rw[List.findIdx?_eq_none_iff]
  simp
theorem lvAt_some {s:Sta} {i:Nat} {x:Ser} (h:s.2.2.2[i]? = some x):lvAt s i=decide (LvX s x):=by
  unfold lvAt;rw[h]
theorem live_len (s:Sta):(liveV s).length≤s.2.2.2.length:=by
  have:=List.length_filter_le (lvAt s) (List.range s.2.2.2.length)
  simpa [liveV] using this
noncomputable def whereV (s:Sta) (l:List Lab) (e:Ev):Int×(Bool×Int) :=
  if ¬StaOk s then (0,(false,2)) else if ¬LabOk l then (0,(false,8)) else if ¬EvOk e then (0,(false,2)) else
  if e.1<mk s∨mk s+s.1.2.1.1≤e.1 then (0,(false,9)) else
  match findV s l with
  | some i=>if e.1≤((s.2.2.2[i]?).getD ser0).2.1 then (0,(false,9)) else ((i:Int),(false,0))
  | none=>if e.2.2.2=true then (0,(false,3)) else match roomV s with | some i=>((i:Int),(true,0)) | none=>(0,(false,7))
end Go.Proofs.YtjeabebacegikaaGreatDoor
namespace Go.Proofs.YtjeabebacegikaaGreatDoor
open Go.Flat
def rd (st:List UInt8×Bool) (k:Nat):Int×(List UInt8×Bool):=if st.2=true∨st.1.length<k then (0,([],true)) else (valI (bytesI (st.1.take k)),(st.1.drop k,false))
def q0 (s:List UInt8):=rd (s,false) 4
def q1 (s:List UInt8):=rd (q0 s).2 8
def q2 (s:List UInt8):=rd (q1 s).2 8
def q3 (s:List UInt8):=rd (q2 s).2 8
def q4 (s:List UInt8):=rd (q3 s).2 4
def q5 (s:List UInt8):=rd (q4 s).2 4
def q6 (s:List UInt8):=rd (q5 s).2 4
def q7 (s:List UInt8):=rd (q6 s).2 4
def q8 (s:List UInt8):=rd (q7 s).2 4
def q9 (s:List UInt8):=rd (q8 s).2 8
structure Full (s:List UInt8):Prop where
  z:(q9 s).1=0
  good:(q9 s).2.2=false
  left:(q9 s).2.1=[]
def idxC (c:Conf):Int:=prt c.2.2.2.2 120
def hom (c:Conf):Int:=1+idxC c+c.2.2.2.2
def siz (c:Conf):Int:=hom c+1+c.2.2.2.1*plc c
theorem idx_range {c:Conf} (h:Rng c):0≤idxC c∧idxC c≤8192:=by
  have:=prt_range (x:=c.2.2.2.2) (e:=120) (by omega) (by have:=h.log;omega)
  have:=h.log
  unfold idxC;omega
theorem siz_wrap {c:Conf} (h:OkC c):IntKind.wrap .i64 (IntKind.wrap .i64 (hom c+1)+IntKind.wrap .i64 (c.2.2.2.1*plc c))=siz c∧0≤siz c∧siz c≤2000000000:=by
  have hl:=h.rng.log
  have hi:=idx_range h.rng
  have hp:=plc_range h.rng
  have hcap:=h.rng.cap
  have h1:0≤c.2.2.2.1*plc c:=Int.mul_nonneg (by omega) (by omega)
  have h2:c.2.2.2.1*plc c≤65536*plc c:=Int.mul_le_mul_of_nonneg_right (by omega) (by omega)
  have hh:hom c=1+idxC c+c.2.2.2.2:=rfl
  rw[w64 (x:=hom c+1) (by omega) (by omega),w64 (x:=c.2.2.2.1*plc c) (by omega) (by omega),w64 (by omega) (by omega)]
  have hs:siz c=hom c+1+c.2.2.2.1*plc c:=rfl
  omega
def sizR (c:Conf):Int×Int:=if 16777216<siz c then (0,1) else (siz c,0)
end Go.Proofs.YtjeabebacegikaaGreatDoor
namespace Go.Proofs.YtjeabebacegikaaGreatDoor
open Go.Flat Go.Plim
set_option linter.unusedVariables false
set_option linter.unusedSimpArgs false
theorem el_get {l:List Ser} {k:Nat} (h:k<l.length):∃y,l[k]? = some y:=⟨l[k],List.getElem?_eq_getElem h⟩
noncomputable def findR (s:Sta) (l:List Lab):Int×Int:=if Whole s then (match findV s l with | some i=>((i:Int),0) | none=>(0,3)) else (0,2)
noncomputable def roomR (s:Sta):Int×Int:=if Whole s then (match roomV s with | some i=>((i:Int),0) | none=>(0,7)) else (0,2)
noncomputable def liveR (s:Sta):List Int:=if Whole s then (liveV s).map Int.ofNat else []
def IsF (s:Sta) (l:List Lab) (k:Nat):Prop:=∃y,s.2.2.2[k]? = some y∧y.1=l∧LvX s y
noncomputable instance (s l k):Decidable (IsF s l k):=Classical.propDecidable _
def IsR (s:Sta) (k:Nat):Prop:=∃y,s.2.2.2[k]? = some y∧¬LvX s y
noncomputable instance (s k):Decidable (IsR s k):=Classical.propDecidable _
theorem find_first {s:Sta} {l:List Lab} {m:Nat} (h:IsF s l m) (hn:∀j,j<m→¬IsF s l j):findV s l=some m:=by
  obtain ⟨y,h1,h2,h3⟩:=h
  exact findV_some.2 ⟨y,h1,h2,h3,fun j hj z hz k=>hn j hj ⟨z,hz,k.1,k.2⟩⟩
theorem find_no {s:Sta} {l:List Lab} (hn:∀j,j<s.2.2.2.length→¬IsF s l j):findV s l=none:=by
  refine findV_none.2 fun x hx k => ?_
  obtain ⟨i,hi,e⟩:=List.getElem_of_mem hx
  exact hn i hi ⟨x,by rw[List.getElem?_eq_getElem hi,e],k.1,k.2⟩
theorem room_first {s:Sta} {m:Nat} (h:IsR s m) (hn:∀j,j<m→¬IsR s j):roomV s=some m:=by
  obtain ⟨y,h1,h2⟩:=h
  exact roomV_some.2 ⟨y,h1,h2,fun j hj z hz=>Decidable.byContradiction fun k=>hn j hj ⟨z,hz,k⟩⟩
theorem room_no {s:Sta} (hn:∀j,j<s.2.2.2.length→¬IsR s j):roomV s=none:=by
  refine roomV_none.2 fun x hx=>Decidable.byContradiction fun k => ?_
  obtain ⟨i,hi,e⟩:=List.getElem_of_mem hx
  exact hn i hi ⟨x,by rw[List.getElem?_eq_getElem hi,e],k⟩
theorem stt_find (n:Nat) {s:Sta} (hw:StaW s) (l:List Lab):stt_Find (n+10) s l=some (findR s l):=by
  rw[stt_Find_eq,st_open (n+5) s,obs,tfn,tfd]
  unfold findR
  by_cases h:Whole s
  case neg=>rw[if_neg h,if_neg h,if_neg (show ¬((sta0,(2:Int)).2=0) by decide)]
  rw[if_pos h,if_pos h,if_pos rfl]
  have his:∀k:Nat,k<s.2.2.2.length→(fun y1:Int×Unit=>stt_Find_1 (n+9) y1.1 s l s) ((k:Int),())=some (decide (IsF s l k)):=by
    intro k hk
    obtain ⟨y,hy⟩:=el_get hk
    have hm:=(hw.at hy).2
    show stt_Find_1 (n+9) (k:Int) s l s=_
    rw[stt_Find_1_eq,at_el hy,obs,label_same (n+6) _ _ hm.l,obs,tfd,st_lives (n+1) hy hm,obs]
    by_cases h1:y.1=l
    · rw[if_pos h1]
      refine congrArg some (decide_eq_decide.2 ⟨fun k=>⟨y,hy,h1,k⟩,fun ⟨z,z1,z2,z3⟩ => ?_⟩)
      rw[hy] at z1;cases z1;exact z3
    · rw[if_neg h1,decide_eq_false (fun q:IsF s l k=>by obtain ⟨z,z1,z2,z3⟩:=q;rw[hy] at z1;cases z1;exact h1 z2)]
  rcases first_val (n+8) s (fun y1:Int×Unit=>stt_Find_1 (n+9) y1.1 s l s) (fun k=>decide (IsF s l k)) (by have:=h.len;omega) his with ⟨m,q1,q2,q3,q4⟩ | ⟨q1,q2⟩
  · rw[show (fun y1:Int×Unit=>stt_Find_1 (n+9) y1.1 s l (s,(0:Int)).1)=fun y1:Int×Unit=>stt_Find_1 (n+9) y1.1 s l s from rfl,q4,obs,tfd,if_neg (by omega),find_first (of_decide_eq_true q2) (fun j hj=>of_decide_eq_false (q3 j hj))]
  · rw[show (fun y1:Int×Unit=>stt_Find_1 (n+9) y1.1 s l (s,(0:Int)).1)=fun y1:Int×Unit=>stt_Find_1 (n+9) y1.1 s l s from rfl,q2,obs,tfd,if_pos (by decide),find_no (fun j hj=>of_decide_eq_false (q1 j hj))]
theorem stt_room (n:Nat) {s:Sta} (hw:StaW s):stt_Room (n+10) s=some (roomR s):=by
  rw[stt_Room_eq,st_open (n+5) s,obs,tfn,tfd]
  unfold roomR
  by_cases h:Whole s
  case neg=>rw[if_neg h,if_neg h,if_neg (show ¬((sta0,(2:Int)).2=0) by decide)]
  rw[if_pos h,if_pos h,if_pos rfl]
  have his:∀k:Nat,k<s.2.2.2.length→(fun y1:Int×Unit=>stt_Room_1 (n+9) y1.1 s) ((k:Int),())=some (decide (IsR s k)):=by
    intro k hk
    obtain ⟨y,hy⟩:=el_get hk
    have hm:=(hw.at hy).2
    show stt_Room_1 (n+9) (k:Int) s=_
    rw[stt_Room_1_eq,st_lives (n+1) hy hm,obs]
    by_cases h1:LvX s y
    · rw[decide_eq_true h1,decide_eq_false (fun q:IsR s k=>by obtain ⟨z,z1,z2⟩:=q;rw[hy] at z1;cases z1;exact z2 h1)];rfl
    · rw[decide_eq_false h1,decide_eq_true (show IsR s k from ⟨y,hy,h1⟩)];rfl
  rcases first_val (n+8) s (fun y1:Int×Unit=>stt_Room_1 (n+9) y1.1 s) (fun k=>decide (IsR s k)) (by have:=h.len;omega) his with ⟨m,q1,q2,q3,q4⟩ | ⟨q1,q2⟩
  · rw[show (fun y1:Int×Unit=>stt_Room_1 (n+9) y1.1 (s,(0:Int)).1)=fun y1:Int×Unit=>stt_Room_1 (n+9) y1.1 s from rfl,q4,obs,tfd,if_neg (by omega),room_first (of_decide_eq_true q2) (fun j hj=>of_decide_eq_false (q3 j hj))]
  · rw[show (fun y1:Int×Unit=>stt_Room_1 (n+9) y1.1 (s,(0:Int)).1)=fun y1:Int×Unit=>stt_Room_1 (n+9) y1.1 s from rfl,q2,obs,tfd,if_pos (by decide),room_no (fun j hj=>of_decide_eq_false (q1 j hj))]
theorem r17_find_l4 (n:Nat) {s:Sta} (hw:StaW s) (hL:s.2.2.2.length≤1000000) (l:List Lab):∀(d k f:Nat),k+d=s.2.2.2.length→d<f →
    (∃m:Nat,k≤m∧IsF s l m∧(∀j,k≤j→j<m→¬IsF s l j)∧r17_Find_l4 (n+6) f (l,s,s.2.2.2,(s.2.2.2.length:Int),(k:Int),())=some (.inr ((m:Int),0))) ∨
    ((∀j,k≤j→j<s.2.2.2.length→¬IsF s l j)∧r17_Find_l4 (n+6) f (l,s,s.2.2.2,(s.2.2.2.length:Int),(k:Int),())=some (.inl ())):=by
  intro d
  induction d with
  | zero =>
    intro k f hk hf
    obtain ⟨f,rfl⟩:∃g,f=g+1:=⟨f-1,by omega⟩
    refine .inr ⟨fun j h1 h2=>by omega,?_⟩
    rw[r17_Find_l4_eq,decide_eq_false (by omega),tff]
  | succ d ih =>
    intro k f hk hf
    obtain ⟨f,rfl⟩:∃g,f=g+1:=⟨f-1,by omega⟩
    obtain ⟨y,hy⟩:=el_get (l:=s.2.2.2) (k:=k) (by omega)
    have hm:=(hw.at hy).2
    have ih':=ih (k+1) f (by omega) (by omega)
    have next:¬IsF s l k→((∃m:Nat,k≤m∧IsF s l m∧(∀j,k≤j→j<m→¬IsF s l j)∧r17_Find_l4 (n+6) f (l,s,s.2.2.2,(s.2.2.2.length:Int),((k+1:Nat):Int),())=some (.inr ((m:Int),0))) ∨
    ((∀j,k≤j→j<s.2.2.2.length→¬IsF s l j)∧r17_Find_l4 (n+6) f (l,s,s.2.2.2,(s.2.2.2.length:Int),((k+1:Nat):Int),())=some (.inl ()))):=by
      intro hn
      have low:∀j,k≤j→¬k+1≤j→¬IsF s l j:=fun j h1 h2=>by rw[show j=k by omega];exact hn
      rcases ih' with ⟨m,h1,h2,h3,h4⟩ | ⟨h1,h2⟩
      · exact .inl ⟨m,by omega,h2,fun j q1 q2=>if z:k+1≤j then h3 j z q2 else low j q1 z,h4⟩
      · exact .inr ⟨fun j q1 q2=>if z:k+1≤j then h1 j z q2 else low j q1 z,h2⟩
    rw[r17_Find_l4_eq,decide_eq_true (by omega),tft,at_el hy,obs,r17_lives_val n hy hm,obs,tfd,eq_r05_Same (n+5) _ _ hm.l,obs,tfd,w64 (by omega) (by omega),show ((k:Int)+1)=((k+1:Nat):Int) by omega]
    by_cases h1:LvX s y
    case neg=>rw[if_neg h1];exact next (fun q=>by obtain ⟨z,z1,z2,z3⟩:=q;rw[hy] at z1;cases z1;exact h1 z3)
    rw[if_pos h1]
    by_cases h2:y.1=l
    case neg=>rw[if_neg h2];exact next (fun q=>by obtain ⟨z,z1,z2,z3⟩:=q;rw[hy] at z1;cases z1;exact h2 z2)
    rw[if_pos h2]
    exact .inl ⟨k,Nat.le_refl _,⟨y,hy,h2,h1⟩,fun j q1 q2=>by omega,rfl⟩
theorem r17_find (n:Nat) {s:Sta} (hw:StaW s) (l:List Lab):r17_Find (n+7) s l=some (findR s l):=by
  rw[r17_Find_eq,r17_whole_val (n+2) s,obs,tfn,tfd]
  unfold findR
  by_cases h:Whole s
  case neg=>rw[if_neg h,if_neg h]
  rw[if_pos h,if_pos h]
  have hL:=h.len
  rcases r17_find_l4 n hw (by omega) l s.2.2.2.length 0 loopFuel (by omega) (by unfold loopFuel;omega) with ⟨m,q1,q2,q3,q4⟩ | ⟨q1,q2⟩
  · have q4':r17_Find_l4 (n+6) loopFuel (l,s,s.2.2.2,(s.2.2.2.length:Int),(0:Int),())=some (.inr ((m:Int),0)):=q4
    rw[q4',obs,selim_inr,find_first q2 (fun j hj=>q3 j (by omega) hj)]
  · have q2':r17_Find_l4 (n+6) loopFuel (l,s,s.2.2.2,(s.2.2.2.length:Int),(0:Int),())=some (.inl ()):=q2
    rw[q2',obs,selim_inl,find_no (fun j hj=>q1 j (by omega) hj)]
theorem lvAt_el {s:Sta} {k:Nat} {y:Ser} (h:s.2.2.2[k]? = some y):decide (LvX s y)=lvAt s k:=(lvAt_some h).symm
theorem st_live_l6 (n:Nat) {s:Sta} (hw:StaW s) (hL:s.2.2.2.length≤1000000):∀(d k f:Nat) (out:List Int),k+d=s.2.2.2.length→d<f→out.length≤k →
    stt_Live_l6 (n+7) f (s,out,(s.2.2.2.length:Int),(k:Int),())=some (.inl (out++((List.range' k d).filter (lvAt s)).map Int.ofNat,())):=by
  intro d
  induction d with
  | zero =>
    intro k f out hk hf ho
    obtain ⟨f,rfl⟩:∃g,f=g+1:=⟨f-1,by omega⟩
    rw[stt_Live_l6_eq,decide_eq_false (by omega),tff];simp
  | succ d ih =>
    intro k f out hk hf ho
    obtain ⟨f,rfl⟩:∃g,f=g+1:=⟨f-1,by omega⟩
    obtain ⟨y,hy⟩:=el_get (l:=s.2.2.2) (k:=k) (by omega)
    rw[stt_Live_l6_eq,decide_eq_true (by omega),tft,st_lives n hy (hw.at hy).2,obs,lvAt_el hy,w64 (by omega) (by omega),show ((k:Int)+1)=((k+1:Nat):Int) by omega,List.range'_succ]
    cases h:lvAt s k
    · rw[tff,ih (k+1) f out (by omega) (by omega) (by omega),List.filter_cons_of_neg (by simp[h])]
    · rw[tft,decide_eq_true (by omega),tft,ih (k+1) f _ (by omega) (by omega) (by simp;omega),List.filter_cons_of_pos h];simp
theorem stt_live (n:Nat) {s:Sta} (hw:StaW s):stt_Live (n+8) s=some (liveR s):=by
  rw[stt_Live_eq,st_open (n+3) s,obs,tfn,tfd]
  unfold liveR
  by_cases h:Whole s
  case neg=>rw[if_neg h,if_neg h,if_neg (show ¬((sta0,(2:Int)).2=0) by decide)]
  rw[if_pos h,if_pos h,if_pos rfl]
  have hL:=h.len
  have e:stt_Live_l6 (n+7) loopFuel (s,([]:List Int),(s.2.2.2.length:Int),(0:Int),())=_:=st_live_l6 n hw (by omega) s.2.2.2.length 0 loopFuel [] (by omega) (by unfold loopFuel;omega) (by simp)
  simp only
  rw[e,obs,selim_inl]
  unfold liveV
  rw[List.range_eq_range'];rfl
theorem lvAt_lt {s:Sta} {k:Nat} (h:lvAt s k=true):k<s.2.2.2.length:=by
  unfold lvAt at h
  cases hx:s.2.2.2[k]? with
  | none=>rw[hx] at h;cases h
  | some x=>exact (List.getElem?_eq_some_iff.1 hx).1
noncomputable def markV (s:Sta):Int:=if Whole s∧TimeP s.2.1 then mk s else 0
theorem stt_mark (n:Nat) (s:Sta):stt_Mark (n+5) s=some (markV s):=by
  rw[stt_Mark_eq,st_open n s,obs,tfn,tfd,st_time (n+3),obs,tfn,tfd]
  unfold markV
  by_cases h:Whole s
  case neg=>rw[if_neg h,if_neg (show ¬((sta0,(2:Int)).2=0) by decide),if_neg (fun k=>h k.1)]
  rw[if_pos h,if_pos rfl]
  by_cases h1:TimeP s.2.1
  case neg=>rw[if_neg h1,if_neg (fun k=>h1 k.2)]
  rw[if_pos h1,if_pos ⟨h,h1⟩,st_mark (n+3) h1 h.1.rng.w0];rfl
noncomputable def newSt (c:Conf):Sta×Int:=if OkC c then (if (sizR c).2=0 then ((c,(0,(-1,List.replicate c.2.2.2.1.toNat ser0))),0) else (sta0,(sizR c).2)) else (sta0,2)
theorem cap_test {c:Conf} (h:OkC c):((decide ((0:Int)≤c.2.2.2.1))&&((decide (c.2.2.2.1≤c.2.2.2.1))&&(decide ((c.2.2.2.1*(264:Int))≤(140737488355328:Int)))))=true:=by
  have:=h.rng.cap
  rw[decide_eq_true (by omega),decide_eq_true (by omega),decide_eq_true (by omega)];rfl
theorem sta0_w:StaW sta0:=⟨by simp[sta0],by simp[sta0]⟩
theorem ser0_w:SerW ser0:=by
  refine ⟨?_,?_,⟨?_,?_,?_⟩,slow_s0⟩
  · unfold I64;simp[ser0]
  · intro e he;simp[ser0,r0w] at he
  · intro x hx;simp[ser0] at hx
  · intro x hx;simp[ser0] at hx
  · intro x hx;simp[ser0] at hx
theorem newSt_w (c:Conf):StaW (newSt c).1:=by
  unfold newSt
  split
  · rename_i h
    split
    · have:=h.rng.cap
      exact ⟨by simp;omega,fun x hx=>by rw[List.eq_of_mem_replicate hx];exact ⟨ser0_w,ser0_m⟩⟩
    · exact sta0_w
  · exact sta0_w
theorem newSt_ok {c:Conf} (h:(newSt c).2=0):StaOk (newSt c).1∧liveV (newSt c).1=[]:=by
  unfold newSt at h ⊢
  by_cases h1:OkC c
  case neg=>rw[if_neg h1] at h;cases h
  rw[if_pos h1] at h ⊢
  by_cases h2:(sizR c).2=0
  case neg=>rw[if_neg h2] at h;exact absurd h h2
  rw[if_pos h2]
  have hcap:=h1.rng.cap
  have all:∀(i:Nat) x,(List.replicate c.2.2.2.1.toNat ser0)[i]? = some x→x=ser0:=fun i x hx=>List.eq_of_mem_replicate (List.mem_of_getElem? hx)
  refine ⟨⟨⟨h1,by simp;omega⟩,⟨⟨by simp,by simp⟩,.inl rfl,by simp⟩,fun i x hx => .inl (all i x hx)⟩,?_⟩
  unfold liveV
  rw[List.filter_eq_nil_iff]
  intro i hi hl
  obtain ⟨y,hy⟩:=el_get (List.mem_range.1 hi)
  rw[lvAt_some hy] at hl
  exact (of_decide_eq_true hl).1 (all i y hy)
theorem nb_mono {l:List Slo} {a b:Int} (h:NoBehind l a) (hab:a≤b):NoBehind l b:=fun s hs hc=>by
  have:=h s hs hc;omega
theorem nb_tput {l:List Slo} {b i:Int} {x:Cel} (h:NoBehind l b) (hi:i<b):NoBehind (tput l i x) b:=by
  intro s hs hc
  rcases List.mem_or_eq_of_mem_set hs with k | k
  · exact h s k hc
  · rw[k];exact hi
theorem ediv_lt_of_ne {a b w:Int} (hw:1≤w) (hab:a≤b) (h:a / w≠b / w):a / w<b / w:=by
  have:a / w≤b / w:=Int.ediv_le_ediv (by omega) hab
  omega
theorem nb_upw {c:Conf} (hc:OkC c) {s:Trs} {T U:Int} (hTU:T≤U) (h0:NoBehind s.1 (U / c.2.1.1)) (h1:NoBehind s.2.1 (T / c.2.1.2.1)) (h2:NoBehind s.2.2 (T / c.2.1.2.2)) :
    NoBehind (upw c s (T / c.2.1.1) (U / c.2.1.1)).1 (U / c.2.1.1)∧NoBehind (upw c s (T / c.2.1.1) (U / c.2.1.1)).2.1 (U / c.2.1.2.1)∧NoBehind (upw c s (T / c.2.1.1) (U / c.2.1.1)).2.2 (U / c.2.1.2.2):=by
  have hr:=hc.rng
  have q1:=(edvm (t:=T) hr.w0.1 hr.w1.1 hc.m1).1
  have q1u:=(edvm (t:=U) hr.w0.1 hr.w1.1 hc.m1).1
  have q2:=(edvm (t:=T) hr.w0.1 hr.w2.1 hc.m02).1
  have q2u:=(edvm (t:=U) hr.w0.1 hr.w2.1 hc.m02).1
  have m1:T / c.2.1.2.1≤U / c.2.1.2.1:=Int.ediv_le_ediv (by have:=hr.w1;omega) hTU
  have m2:T / c.2.1.2.2≤U / c.2.1.2.2:=Int.ediv_le_ediv (by have:=hr.w2;omega) hTU
  have u1:NoBehind (up1 c s (T / c.2.1.1) (U / c.2.1.1)).1 (U / c.2.1.1)∧NoBehind (up1 c s (T / c.2.1.1) (U / c.2.1.1)).2.1 (U / c.2.1.2.1)∧NoBehind (up1 c s (T / c.2.1.1) (U / c.2.1.1)).2.2 (T / c.2.1.2.2):=by
    unfold up1
    rw[q1,q1u]
    split
    · exact ⟨h0,nb_mono h1 m1,h2⟩
    · rename_i hne
      split
      · exact ⟨h0,nb_tput (nb_mono h1 m1) (by omega),h2⟩
      · exact ⟨h0,nb_mono h1 m1,h2⟩
  unfold upw
  generalize up1 c s (T / c.2.1.1) (U / c.2.1.1)=v at u1
  unfold up2
  rw[q2,q2u]
  split
  · exact ⟨u1.1,u1.2.1,nb_mono u1.2.2 m2⟩
  · rename_i hne
    split
    · exact ⟨u1.1,u1.2.1,nb_tput (nb_mono u1.2.2 m2) (by omega)⟩
    · exact ⟨u1.1,u1.2.1,nb_mono u1.2.2 m2⟩
theorem rawNext_ok {r:Rw} {room:Int} {e:Ev} (h:RawOk r room) (he:EvOk e) (ha:After r.2.2 e) (hl:¬((r.2.2.length:Int)=room∧r.1=70368744177664)):RawOk (rawNext r room e) room∧(rawNext r room e).2.2.getLast? = some e:=by
  have hf:Foll (r.2.2++[e]):=by
    refine foll_append.2 ⟨h.f,⟨by simp[he],by simp⟩,fun x hx y hy => ?_⟩
    simp at hy;subst hy
    have hn:r.2.2≠[]:=List.ne_nil_of_mem hx
    have hg:=List.getLast?_eq_some_getLast hn
    have:=ha _ hg
    rcases List.eq_nil_or_concat r.2.2 with k | ⟨p,z,k⟩
    · exact absurd k hn
    · rw[List.concat_eq_append] at k
      have hz:r.2.2.getLast hn=z:=by simp[k]
      rw[hz] at this
      rw[k] at hx
      rcases List.mem_append.1 hx with q | q
      · have hf:=h.f;rw[k] at hf
        have:=(foll_append.1 hf).2.2 x q z (by simp);omega
      · simp at q;rw[q];exact this
  unfold rawNext
  by_cases h1:(r.2.2.length:Int)<room
  · rw[if_pos h1]
    refine ⟨⟨h.m0,h.m1,by simp;omega,h.l0,h.l1,hf,h.z,fun k => ?_⟩,by simp⟩
    have:=(h.p k).1;omega
  · rw[if_neg h1]
    have hlen:=h.len
    have hlen':(r.2.2.length:Int)=room:=by omega
    have m0:=h.m0
    cases hc:r.2.2 with
    | nil=>rw[hc] at hlen';simp at hlen';omega
    | cons a t =>
      rw[hc] at hf hlen'
      have hfa:=foll_cons.1 hf
      simp only[List.drop_succ_cons,List.drop_zero,List.headD_cons]
      refine ⟨⟨h.m0,h.m1,by simp at hlen' ⊢;omega,by have:=h.l0;simp only;omega,?_,hfa.2.2,fun k => ?_,fun _=>⟨by simp at hlen' ⊢;omega,hfa.1.t0,fun x hx => ?_⟩⟩,by simp⟩
      · have:=h.l1
        have:r.1≠70368744177664:=fun k=>hl ⟨by rw[hc];exact hlen',k⟩
        simp only;omega
      · have:=h.l0;simp only at k;omega
      · exact hfa.2.1 x (List.mem_of_mem_head? hx)
theorem mrg_fits {a:Cel} {e:Ev} {w i:Int} (h:FitsP a w i) (he:EvOk e) (hlt:a.2.2.1.1<e.1) (hi:e.1 / w=i):FitsP (mrg a (evCell e)) w i:=by
  have hm:=mrg_n h.n (evCell_N he)
  refine ⟨mrg_N h.n (evCell_N he) hlt,h.w0,h.w1,?_,?_⟩
  · rw[hm];exact h.f
  · rw[hm];exact hi
theorem serOk_put {c:Conf} {s t:Ser} {e:Ev} (h:SerOk c s) (hp:putE c s e=(t,0)):SerOk c t∧EvOk e∧s.2.1<e.1∧t.2.1=e.1∧t.1=s.1:=by
  have hr:=h.fold.cok.rng
  unfold putE at hp
  by_cases h1:SerOk c s∧EvOk e
  case neg=>rw[if_neg h1] at hp;cases hp
  rw[if_pos h1] at hp
  have he:=h1.2
  by_cases h2:e.1≤s.2.1
  · rw[if_pos h2] at hp;cases hp
  rw[if_neg h2] at hp
  by_cases h3:(turned c s (e.1 / c.2.1.1)).2≠0
  · rw[if_pos h3] at hp;exact absurd (congrArg Prod.snd hp) h3
  rw[if_neg h3] at hp
  by_cases h4:(rawPut s.2.2.1 c.1 e).2≠0
  · rw[if_pos h4] at hp;exact absurd (congrArg Prod.snd hp) h4
  rw[if_neg h4] at hp
  by_cases h5:(mrgE (turned c s (e.1 / c.2.1.1)).1.2.2 (evCell e)).2≠0
  · rw[if_pos h5] at hp;exact absurd (congrArg Prod.snd hp) h5
  rw[if_neg h5] at hp
  have hp:=(Prod.ext_iff.1 hp).1
  simp only at hp
  subst hp
  refine ⟨?_,he,by omega,rfl,rfl⟩
  have h3:(turned c s (e.1 / c.2.1.1)).2=0:=Decidable.byContradiction h3
  have h4:(rawPut s.2.2.1 c.1 e).2=0:=Decidable.byContradiction h4
  have h5:(mrgE (turned c s (e.1 / c.2.1.1)).1.2.2 (evCell e)).2=0:=Decidable.byContradiction h5
  have e0:0≤e.1:=he.t0
  have hraw:RawOk (rawPut s.2.2.1 c.1 e).1 c.1∧(rawPut s.2.2.1 c.1 e).1.2.2.getLast? = some e:=by
    unfold rawPut at h4 ⊢
    rw[if_pos ⟨h.raw,he⟩] at h4 ⊢
    by_cases k1:After s.2.2.1.2.2 e
    case neg=>rw[if_neg k1] at h4;cases h4
    rw[if_pos k1] at h4 ⊢
    by_cases k2:(s.2.2.1.2.2.length:Int)=c.1∧s.2.2.1.1=70368744177664
    · rw[if_pos k2] at h4;cases h4
    rw[if_neg k2] at h4 ⊢
    exact rawNext_ok h.raw he k1 k2
  have key:FoldOk c (turned c s (e.1 / c.2.1.1)).1.1∧NoBehind (turned c s (e.1 / c.2.1.1)).1.1.1 (e.1 / c.2.1.1)∧NoBehind (turned c s (e.1 / c.2.1.1)).1.1.2.1 (e.1 / c.2.1.2.1)∧NoBehind (turned c s (e.1 / c.2.1.1)).1.1.2.2 (e.1 / c.2.1.2.2) ∧
      FitsP (mrgE (turned c s (e.1 / c.2.1.1)).1.2.2 (evCell e)).1 c.2.1.1 (e.1 / c.2.1.1)∧(mrgE (turned c s (e.1 / c.2.1.1)).1.2.2 (evCell e)).1.2.2.1.1=e.1:=by
    have fresh1:FitsP (evCell e) c.2.1.1 (e.1 / c.2.1.1):=⟨evCell_N he,hr.w0.1,hr.w0.2,rfl,rfl⟩
    have z1:mrgE s0.2 (evCell e)=(evCell e,0):=mrgE_z0 (evCell_N he).ok
    rcases h.st with ⟨l1,hf⟩ | ⟨l1,hd⟩
    · have ht:turned c s (e.1 / c.2.1.1)=((s.2.2.2.1,s.2.2.2.2),0):=by
        unfold turned;rw[if_neg (fun k:TurnS s _=>k.1 hf.opn)]
      rw[ht]
      simp only
      rw[hf.opn,z1]
      exact ⟨h.fold,nb_mono hf.b0 (Int.ediv_nonneg e0 (by have:=hr.w0;omega)),nb_mono hf.b1 (Int.ediv_nonneg e0 (by have:=hr.w1;omega)),nb_mono hf.b2 (Int.ediv_nonneg e0 (by have:=hr.w2;omega)),fresh1,rfl⟩
    · have hT:s.2.1≤e.1:=by omega
      have ho:s.2.2.2.2.1=s.2.1 / c.2.1.1:=by rw[←hd.fit.l,hd.ol]
      by_cases hts:TurnS s (e.1 / c.2.1.1)
      · have hlt:s.2.1 / c.2.1.1<e.1 / c.2.1.1:=ediv_lt_of_ne hr.w0.1 hT (by rw[←ho];exact hts.2)
        have hcl:closeE c s.2.2.2.1 s.2.2.2.2 (e.1 / c.2.1.1)=(upw c (tput s.2.2.2.1.1 s.2.2.2.2.1 s.2.2.2.2.2,s.2.2.2.1.2) (s.2.1 / c.2.1.1) (e.1 / c.2.1.1),0):=by
          unfold closeE
          rw[if_pos h.fold,if_neg hts.1,if_pos hd.fit,if_neg hts.2,if_pos ⟨by omega,ev_begins he hr.w0.1⟩,ho]
        have ht:turned c s (e.1 / c.2.1.1)=((upw c (tput s.2.2.2.1.1 s.2.2.2.2.1 s.2.2.2.2.2,s.2.2.2.1.2) (s.2.1 / c.2.1.1) (e.1 / c.2.1.1),s0),0):=by
          unfold turned;rw[if_pos hts,hcl,if_pos rfl]
        rw[ht]
        simp only
        rw[z1]
        obtain ⟨n0,n1,n2⟩:=nb_upw (s:=(tput s.2.2.2.1.1 s.2.2.2.2.1 s.2.2.2.2.2,s.2.2.2.1.2)) h.fold.cok hT (nb_tput (nb_mono hd.b0 (by omega)) (by omega)) hd.b1 hd.b2
        exact ⟨upw_ok (foldOk_put0 h.fold hd.fit) _ _,n0,n1,n2,fresh1,rfl⟩
      · have ht:turned c s (e.1 / c.2.1.1)=((s.2.2.2.1,s.2.2.2.2),0):=by
          unfold turned;rw[if_neg hts]
        have hop:s.2.2.2.2≠s0:=fun k=>by have:=hd.fit.n.n1;rw[k] at this;simp[s0,z0] at this
        have hw:s.2.2.2.2.1=e.1 / c.2.1.1:=Decidable.byContradiction fun k=>hts ⟨hop,k⟩
        rw[ht] at h5 ⊢
        simp only at h5 ⊢
        obtain ⟨k1,k2,k3,k4,k5⟩:=mrgE_ok h5
        rw[k4]
        have hfit:=hd.fit
        rw[hw] at hfit
        have hm:=mrg_n hd.fit.n (evCell_N he)
        exact ⟨h.fold,nb_mono hd.b0 (by omega),nb_mono hd.b1 (Int.ediv_le_ediv (by have:=hr.w1;omega) hT),nb_mono hd.b2 (Int.ediv_le_ediv (by have:=hr.w2;omega) hT),
          mrg_fits hfit he (by have:=hd.ol;omega) rfl,by rw[hm];rfl⟩
  obtain ⟨k1,k2,k3,k4,k5,k6⟩:=key
  exact ⟨k1,h.lab,hraw.1,.inr ⟨by show e.1 ≠ -1;omega,⟨e,hraw.2,rfl⟩,k6,k5,k2,k3,k4⟩⟩
def setS (s:Sta) (i:Nat) (y:Ser):Sta:=(s.1,(s.2.1,(s.2.2.1,s.2.2.2.set i y)))
noncomputable def xOf (s:Sta) (l:List Lab) (w:Int×(Bool×Int)):Ser:=if w.2.1=true then (newV s.1 l).1 else (s.2.2.2[w.1.toNat]?).getD ser0
noncomputable def writeV (s:Sta) (l:List Lab) (e:Ev):Sta×Int :=
  if (whereV s l e).2.2≠0 then (sta0,(whereV s l e).2.2)
  else if (putE s.1 (xOf s l (whereV s l e)) e).2≠0 then (sta0,(putE s.1 (xOf s l (whereV s l e)) e).2)
  else (setS s (whereV s l e).1.toNat (putE s.1 (xOf s l (whereV s l e)) e).1,0)
structure Goes (s:Sta) (l:List Lab) (e:Ev):Prop where
  st:StaOk s
  lab:LabOk l
  ev:EvOk e
  lo:mk s≤e.1
  hi:e.1<mk s+s.1.2.1.1
inductive PlaceAt (s:Sta) (l:List Lab) (e:Ev):Nat→Ser→Bool→Prop
  | found {i:Nat} {x:Ser} (hf:findV s l=some i) (hx:s.2.2.2[i]? = some x) (hl:x.1=l) (hlv:LvX s x) (ht:x.2.1<e.1):PlaceAt s l e i x false
  | room {i:Nat} (hf:findV s l=none) (hs:e.2.2.2=false) (hr:roomV s=some i):PlaceAt s l e i (l,(-1,(r0w,(emp s.1,s0)))) true
theorem new_val {c:Conf} {l:List Lab} (h:OkC c) (hl:LabOk l):newV c l=((l,(-1,(r0w,(emp c,s0)))),0):=by
  unfold newV;rw[if_pos h,if_pos hl]
theorem goes_iff {s:Sta} {l:List Lab} {e:Ev} (h:(whereV s l e).2.2=0):Goes s l e∧∃i x b,PlaceAt s l e i x b∧(whereV s l e).1.toNat=i∧xOf s l (whereV s l e)=x∧whereV s l e=((i:Int),(b,0)):=by
  unfold whereV at h ⊢
  by_cases h1:StaOk s
  case neg=>rw[if_pos h1] at h;cases h
  rw[if_neg (fun k=>k h1)] at h ⊢
  by_cases h2:LabOk l
  case neg=>rw[if_pos h2] at h;cases h
  rw[if_neg (fun k=>k h2)] at h ⊢
  by_cases h3:EvOk e
  case neg=>rw[if_pos h3] at h;cases h
  rw[if_neg (fun k=>k h3)] at h ⊢
  by_cases h4:e.1<mk s∨mk s+s.1.2.1.1≤e.1
  · rw[if_pos h4] at h;cases h
  rw[if_neg h4] at h ⊢
  refine ⟨⟨h1,h2,h3,by omega,by omega⟩,?_⟩
  cases hf:findV s l with
  | some i =>
    rw[hf] at h
    simp only at h ⊢
    obtain ⟨x,hx,k1,k2,k3⟩:=findV_some.1 hf
    rw[hx] at h ⊢
    simp only[Option.getD_some] at h ⊢
    by_cases h5:e.1≤x.2.1
    · rw[if_pos h5] at h;cases h
    rw[if_neg h5]
    exact ⟨i,x,false,.found hf hx k1 k2 (by omega),rfl,by unfold xOf;simp[hx],rfl⟩
  | none =>
    rw[hf] at h
    simp only at h ⊢
    cases h5:e.2.2.2 with
    | true=>rw[h5,if_pos rfl] at h;cases h
    | false =>
      rw[h5,if_neg (by simp)] at h
      rw[if_neg (by simp)]
      cases hr:roomV s with
      | none=>rw[hr] at h;cases h
      | some i =>
        simp only
        exact ⟨i,_,true,.room hf h5 hr,rfl,by unfold xOf;rw[if_pos rfl,new_val h1.whole.1 h2],rfl⟩
theorem place_ok {s:Sta} {l:List Lab} {e:Ev} (h:Goes s l e) {i:Nat} {x:Ser} {b:Bool} (hp:PlaceAt s l e i x b):SerOk s.1 x∧x.1=l∧i<s.2.2.2.length∧x.2.1<e.1:=by
  cases hp with
  | found hf hx hl hlv ht =>
    rcases h.st.right _ _ hx with k | k
    · exact absurd k hlv.1
    · exact ⟨k.1,hl,(List.getElem?_eq_some_iff.1 hx).1,ht⟩
  | room hf hs hr =>
    obtain ⟨y,hy,_⟩:=roomV_some.1 hr
    exact ⟨serInv_ok (new_inv h.st.whole.1 h.lab),rfl,(List.getElem?_eq_some_iff.1 hy).1,by have:=h.ev.t0;show (-1:Int)<e.1;omega⟩
theorem write_ok {s t:Sta} {l:List Lab} {e:Ev} (h:writeV s l e=(t,0)):Goes s l e∧∃i x b y,PlaceAt s l e i x b∧putE s.1 x e=(y,0)∧t=setS s i y∧whereV s l e=((i:Int),(b,0)):=by
  unfold writeV at h
  by_cases h1:(whereV s l e).2.2=0
  case neg=>rw[if_pos h1] at h;exact absurd (congrArg Prod.snd h) h1
  rw[if_neg (fun k=>k h1)] at h
  obtain ⟨hg,i,x,b,k1,k2,k3,k4⟩:=goes_iff h1
  rw[k2,k3] at h
  by_cases h2:(putE s.1 x e).2=0
  case neg=>rw[if_pos h2] at h;exact absurd (congrArg Prod.snd h) h2
  rw[if_neg (fun k=>k h2)] at h
  exact ⟨hg,i,x,b,_,k1,Prod.ext rfl h2,(congrArg Prod.fst h).symm,k4⟩
theorem setS_get (s:Sta) (i:Nat) (y:Ser) (j:Nat):(setS s i y).2.2.2[j]? = if i=j then (if i<s.2.2.2.length then some y else none) else s.2.2.2[j]? := by
  unfold setS
  simp only[List.getElem?_set]
theorem staOk_write {s t:Sta} {l:List Lab} {e:Ev} (h:writeV s l e=(t,0)):StaOk t:=by
  obtain ⟨hg,i,x,b,y,hp,hput,rfl,_⟩:=write_ok h
  obtain ⟨p1,p2,p3,p4⟩:=place_ok hg hp
  obtain ⟨q1,q2,q3,q4,q5⟩:=serOk_put p1 hput
  have hst:=hg.st
  refine ⟨⟨hst.whole.1,by simpa [setS] using hst.whole.2⟩,hst.clock,fun j z hz => ?_⟩
  rw[setS_get] at hz
  by_cases hij:i=j
  · subst hij
    rw[if_pos rfl,if_pos p3] at hz
    cases hz
    refine .inr ⟨q1,by rw[q4];exact hg.ev.t0,by rw[q4];exact hg.hi,?_⟩
    rintro ⟨_,k,hk,w,hw,hlw,hwl⟩
    rw[setS_get,if_neg (by omega)] at hw
    rw[q5,p2] at hwl
    cases hp with
    | found hf hx hl hlv ht =>
      obtain ⟨_,_,_,_,first⟩:=findV_some.1 hf
      exact first k hk w hw ⟨hwl,hlw⟩
    | room hf hs hr=>exact findV_none.1 hf w (List.mem_of_getElem? hw) ⟨hwl,hlw⟩
  · rw[if_neg hij] at hz
    rcases hst.right j z hz with k | ⟨k1,k2,k3,k4⟩
    · exact .inl k
    · refine .inr ⟨k1,k2,k3,?_⟩
      rintro ⟨hlz,k,hk,w,hw,hlw,hwl⟩
      rw[setS_get] at hw
      by_cases hik:i=k
      · subst hik
        rw[if_pos rfl,if_pos p3] at hw
        cases hw
        rw[q5,p2] at hwl
        cases hp with
        | found hf hx hl hlv ht=>exact k4 ⟨hlz,i,hk,x,hx,hlv,hl.trans hwl⟩
        | room hf hs hr=>exact findV_none.1 hf z (List.mem_of_getElem? hz) ⟨hwl.symm,hlz⟩
      · rw[if_neg hik] at hw
        exact k4 ⟨hlz,k,hk,w,hw,hlw,hwl⟩
noncomputable def openV (s:Sta):Int×Int:=if StaOk s then (mk s,if 35184372088832<mk s+s.1.2.1.1 then 35184372088832 else mk s+s.1.2.1.1) else (0,0)
theorem markV_ok {s:Sta} (h:StaOk s):markV s=mk s∧IntKind.wrap .i64 (mk s+s.1.2.1.1)=mk s+s.1.2.1.1:=by
  have hr:=h.whole.1.rng.w0
  have ht:=h.clock.1.2
  obtain ⟨m1,m2,m3,m4⟩:=mk_range h.clock.1 hr
  exact ⟨if_pos ⟨h.whole,h.clock.1⟩,w64 (by omega) (by omega)⟩
theorem rules_open (n:Nat) {s:Sta} (hw:StaW s):rules_Open (n+15) s=some (openV s):=by
  rw[rules_Open_eq,stt_check n hw,obs,tfn,tfd,stt_mark (n+9) s]
  unfold openV
  by_cases h:StaOk s
  case neg=>rw[if_neg h,if_neg h,if_neg (show ¬((2:Int)=0) by decide)]
  obtain ⟨e1,e2⟩:=markV_ok h
  rw[if_pos h,if_pos h,if_pos rfl,obs,e1,e2]
theorem open_iff {s:Sta} {e:Ev} (h:StaOk s) (he:EvOk e):(e.1<(openV s).1∨(openV s).2≤e.1)↔(e.1<mk s∨mk s+s.1.2.1.1≤e.1):=by
  have:=he.t1
  unfold openV
  rw[if_pos h]
  simp only
  split<;>omega
theorem findR_some {s:Sta} (h:Whole s) {l:List Lab} {i:Nat} (hf:findV s l=some i):findR s l=((i:Int),0):=by
  unfold findR;rw[if_pos h,hf]
theorem findR_none {s:Sta} (h:Whole s) {l:List Lab} (hf:findV s l=none):findR s l=(0,3):=by
  unfold findR;rw[if_pos h,hf]
theorem roomR_some {s:Sta} (h:Whole s) {i:Nat} (hf:roomV s=some i):roomR s=((i:Int),0):=by
  unfold roomR;rw[if_pos h,hf]
theorem roomR_none {s:Sta} (h:Whole s) (hf:roomV s=none):roomR s=(0,7):=by
  unfold roomR;rw[if_pos h,hf]
theorem whereV_room {s:Sta} {l:List Lab} {e:Ev} (h:StaOk s) (h1:LabOk l) (h2:EvOk e) (h3:¬(e.1<mk s∨mk s+s.1.2.1.1≤e.1)) :
    whereV s l e=match findV s l with
      | some i=>if e.1≤((s.2.2.2[i]?).getD ser0).2.1 then (0,(false,9)) else ((i:Int),(false,0))
      | none=>if e.2.2.2=true then (0,(false,3)) else match roomV s with | some i=>((i:Int),(true,0)) | none=>(0,(false,7)):=by
  unfold whereV
  rw[if_neg (fun k=>k h),if_neg (fun k=>k h1),if_neg (fun k=>k h2),if_neg h3]
  all_goals (cases findV s l<;>first | rfl | (cases roomV s<;>rfl))
theorem rules_where (n:Nat) {s:Sta} (hw:StaW s) (l:List Lab) {e:Ev} (he:EvW e):rules_Where (n+16) s l e=some (whereV s l e):=by
  rw[rules_Where_eq,stt_check (n+1) hw,obs,tfn,tfd,label_check _ l,event_check _ he,rules_open n hw,stt_find (n+5) hw l,stt_room (n+5) hw]
  by_cases h:StaOk s
  case neg =>
    rw[if_neg h,if_neg (show ¬((2:Int)=0) by decide)]
    unfold whereV;rw[if_pos h]
  rw[if_pos h,if_pos rfl,obs,tfn,tfd]
  by_cases h1:LabOk l
  case neg =>
    rw[if_neg h1,if_neg (show ¬((8:Int)=0) by decide)]
    unfold whereV;rw[if_neg (fun k=>k h),if_pos h1]
  rw[if_pos h1,if_pos rfl,obs,tfn,tfd]
  by_cases h2:EvOk e
  case neg =>
    rw[if_neg h2,if_neg (show ¬((2:Int)=0) by decide)]
    unfold whereV;rw[if_neg (fun k=>k h),if_neg (fun k=>k h1),if_pos h2]
  rw[if_pos h2,if_pos rfl,obs,obs,tfd,tfd]
  by_cases h3:e.1<mk s∨mk s+s.1.2.1.1≤e.1
  · have ht:whereV s l e=(0,(false,9)):=by
      unfold whereV;rw[if_neg (fun k=>k h),if_neg (fun k=>k h1),if_neg (fun k=>k h2),if_pos h3]
    rw[ht]
    rcases (open_iff h h2).2 h3 with q | q
    · rw[if_pos q]
    · by_cases q':e.1<(openV s).1
      · rw[if_pos q']
      · rw[if_neg q',if_pos q]
  have h3':=mt (open_iff h h2).1 h3
  rw[if_neg (fun k=>h3' (.inl k)),if_neg (fun k=>h3' (.inr k)),whereV_room h h1 h2 h3,tfd]
  cases hf:findV s l with
  | some i =>
    obtain ⟨x,hx,_⟩:=findV_some.1 hf
    rw[findR_some h.whole hf,if_pos rfl,at_el hx,obs,tfd]
    simp only[hx,Option.getD_some]
    by_cases h4:e.1≤x.2.1
    · rw[if_pos h4,if_pos h4]
    · rw[if_neg h4,if_neg h4];rfl
  | none =>
    rw[findR_none h.whole hf,if_neg (show ¬((3:Int)=0) by decide),show (decide (((0:Int),(3:Int)).2=0))=false from rfl,tff]
    cases hs:e.2.2.2 with
    | true=>rw[tft];simp
    | false =>
      rw[tff,obs]
      simp only[Bool.false_eq_true,if_false]
      cases hr:roomV s with
      | some i=>rw[roomR_some h.whole hr];rfl
      | none=>rw[roomR_none h.whole hr];rfl
theorem where_err {s:Sta} {l:List Lab} {e:Ev} (h:(whereV s l e).2.2≠0):writeV s l e=(sta0,(whereV s l e).2.2):=by
  unfold writeV;rw[if_pos h]
theorem clone_ser (n:Nat) (s:List Ser) (h:s.length≤1000000):sl_Clone_Series (n+1) s=some s:=by
  rw[sl_Clone_Series_eq,decide_eq_true (show (0+s.length)*264≤140737488355328 by omega)]
  simp only[tft,List.nil_append]
  by_cases h0:s.length=0
  · rw[decide_eq_true h0,tft,List.length_eq_zero_iff.1 h0,both_same]
  · rw[decide_eq_false h0,tff]
theorem place_w {s:Sta} (hw:StaW s) {l:List Lab} {e:Ev} (hg:Goes s l e) {i:Nat} {x:Ser} {b:Bool} (hp:PlaceAt s l e i x b):SerW x:=by
  cases hp with
  | found hf hx hl hlv ht=>exact (hw.at hx).1
  | room hf hs hr=>exact serInv_w (new_inv hg.st.whole.1 hg.lab)
theorem write_val {s:Sta} {l:List Lab} {e:Ev} {i:Nat} {x:Ser} {b:Bool} (hp:(whereV s l e).1.toNat=i) (hx:xOf s l (whereV s l e)=x) (h:(whereV s l e).2.2=0) :
    writeV s l e=if (putE s.1 x e).2=0 then (setS s i (putE s.1 x e).1,0) else (sta0,(putE s.1 x e).2):=by
  unfold writeV
  rw[if_neg (fun k=>k h),hp,hx]
  by_cases h1:(putE s.1 x e).2=0
  · rw[if_neg (fun k=>k h1),if_pos h1]
  · rw[if_pos h1,if_neg h1]
theorem set_tail {s:Sta} {i:Nat} (hi:i<s.2.2.2.length) (y:Ser) :
    (obind (at? s.2.2.2 (i:Int)) fun r4=>obind ((s.2.2.2)[(Int.toNat (i:Int))]?) fun r5=>some ((s.1,(s.2.1,(s.2.2.1,(List.set s.2.2.2 (Int.toNat (i:Int)) y)))),(0:Int)))=some (setS s i y,0):=by
  obtain ⟨z,hz⟩:=el_get hi
  rw[at_el hz,obs,Int.toNat_natCast,hz,obs]
  rfl
theorem write_one (n:Nat) {s:Sta} (hw:StaW s) (l:List Lab) {e:Ev} (he:EvW e):write_One (n+24) s l e=some (writeV s l e):=by
  rw[write_One_eq,rules_where (n+7) hw l he,obs,tfn,tfd]
  by_cases h:(whereV s l e).2.2=0
  case neg=>rw[if_neg h,where_err h];rfl
  obtain ⟨hg,i,x,b,hp,k1,k2,hv⟩:=goes_iff h
  obtain ⟨p1,p2,p3,p4⟩:=place_ok hg hp
  rw[if_pos h,write_val (b:=b) k1 k2 h,hv,write_place_eq]
  have hx:(tif b (obind (series_New (n+22) s.1 l) fun r0=>some r0) (obind (at? s.2.2.2 (i:Int)) fun r1=>some (r1,(0:Int))))=some (x,0):=by
    cases hp with
    | found hf hx hl hlv ht=>rw[tff,at_el hx,obs]
    | room hf hs hr=>rw[tft,series_new (n+15),new_val hg.st.whole.1 hg.lab,obs]
  simp only
  rw[hx,obs,tfn,tfd,if_pos rfl]
  simp only
  rw[series_put n s.1 (place_w hw hg hp) he,obs,tfn,tfd]
  by_cases h1:(putE s.1 x e).2=0
  case neg=>rw[if_neg h1,if_neg h1];rfl
  rw[if_pos h1,if_pos h1,clone_ser (n+22) _ (by have:=hg.st.whole.len;omega),obs,set_tail p3]
end Go.Proofs.YtjeabebacegikaaGreatDoor
