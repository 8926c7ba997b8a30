/-
  Plain proofs about the functions of this seat, part 4 of 4.
-/
import Derived.Test.YtjeabebacegikaaGreatDoorQ3
import Derived.Test.YtjeabebacegikaaGreatDoorTr
namespace Go.Proofs.YtjeabebacegikaaGreatDoor
open Go.Flat Go.Plim
set_option linter.unusedVariables false
set_option linter.unusedSimpArgs false
theorem nodup_le {α:Type} [DecidableEq α]:∀(A B:List α),A.Pairwise (· ≠ ·)→(∀a∈A,a∈B)→A.length≤B.length:=by
  intro A
  induction A with
  | nil=>intro B _ _;exact Nat.zero_le _
  | cons a A ih =>
    intro B hn hs
    rw[List.pairwise_cons] at hn
    have ha:=hs a (by simp)
    have:=ih (B.erase a) hn.2 (fun b hb=>(List.mem_erase_of_ne (fun e=>hn.1 b hb e.symm)).2 (hs b (by simp[hb])))
    rw[List.length_erase_of_mem ha] at this
    have:0<B.length:=List.length_pos_of_mem ha
    simp only[List.length_cons];omega
theorem where_at {s:Sta} {l:List Lab} {e:Ev} (hg:Goes s l e) {i:Nat} {x:Ser} {b:Bool} (hp:PlaceAt s l e i x b):whereV s l e=((i:Int),(b,0))∧xOf s l (whereV s l e)=x:=by
  have e0:whereV s l e=((i:Int),(b,0)):=by
    unfold whereV
    rw[if_neg (fun k=>k hg.st),if_neg (fun k=>k hg.lab),if_neg (fun k=>k hg.ev),if_neg (by have:=hg.lo;have:=hg.hi;omega)]
    cases hp with
    | found hf hx hl hlv ht=>rw[hf];simp only[hx,Option.getD_some];rw[if_neg (by omega)]
    | room hf hs hr=>rw[hf];simp only;rw[if_neg (by rw[hs];simp),hr]
  refine ⟨e0,?_⟩
  rw[e0]
  unfold xOf
  cases hp with
  | found hf hx hl hlv ht=>simp[hx]
  | room hf hs hr=>rw[if_pos rfl,new_val hg.st.whole.1 hg.lab]
theorem write_at {s:Sta} {l:List Lab} {e:Ev} (hg:Goes s l e) {i:Nat} {x y:Ser} {b:Bool} (hp:PlaceAt s l e i x b) (hput:putE s.1 x e=(y,0)):writeV s l e=(setS s i y,0):=by
  obtain ⟨h1,h2⟩:=where_at hg hp
  unfold writeV
  rw[h2,h1,hput]
  rfl
theorem where_bad {s:Sta} (hs:StaOk s) {l:List Lab} {e:Ev} (h:¬Goes s l e):(writeV s l e).2=(if LabOk l then (if EvOk e then 9 else 2) else 8):=by
  have e0:(whereV s l e).2.2=(if LabOk l then (if EvOk e then 9 else 2) else 8):=by
    unfold whereV
    rw[if_neg (fun k=>k hs)]
    by_cases h1:LabOk l
    case neg=>rw[if_pos h1,if_neg h1]
    rw[if_neg (fun k=>k h1),if_pos h1]
    by_cases h2:EvOk e
    case neg=>rw[if_pos h2,if_neg h2]
    have h3:e.1<mk s∨mk s+s.1.2.1.1≤e.1:=by
      rcases Int.lt_or_le e.1 (mk s) with k | k
      · exact .inl k
      · rcases Int.lt_or_le e.1 (mk s+s.1.2.1.1) with q | q
        · exact absurd ⟨hs,h1,h2,k,q⟩ h
        · exact .inr q
    rw[if_neg (fun k=>k h2),if_pos h2,if_pos h3]
  have hn:(whereV s l e).2.2≠0:=by
    rw[e0]
    split
    · split<;>decide
    · decide
  unfold writeV
  rw[if_pos hn,e0]
theorem bad_ne (l:List Lab) (e:Ev):(if LabOk l then (if EvOk e then (9:Int) else 2) else 8)≠0:=by
  split
  · split<;>decide
  · decide
theorem goes_sim {N:Nat} {s t:Sta} (h:Sim N s t) (l:List Lab) (e:Ev):Goes s l e↔Goes t l e:=by
  have hm:mk s=mk t:=by unfold mk;rw[h.c,h.clk]
  constructor
  · intro k;exact ⟨h.ok,k.lab,k.ev,by rw[←hm];exact k.lo,by rw[←hm,←h.c];exact k.hi⟩
  · intro k;exact ⟨h.hs.ok,k.lab,k.ev,by rw[hm];exact k.lo,by rw[hm,h.c];exact k.hi⟩
theorem old_lt {now w m:Int} (h:OfP now w) (hm:1≤m∧m≤4096):(oldV now w m).1≤now / w:=by
  have:=(quo_range h).1
  unfold oldV
  rw[if_pos ⟨h,hm.1,hm.2⟩]
  simp only
  split<;>omega
theorem live_new {t:Sta} (h:StaOk t) {y:Ser} (hn:y≠ser0) (hy:mk t≤y.2.1):LvX t y:=by
  refine ⟨hn,?_⟩
  rcases h.clock.2.1 with k | k
  · exact .inl k
  right
  cases hd:deadV t.1 y.2.1 t.2.2.1 with
  | false=>rfl
  | true =>
    exfalso
    unfold deadV at hd
    simp only[Bool.and_eq_true,decide_eq_true_eq] at hd
    obtain ⟨hc,d0,_⟩:=hd
    unfold goneV at d0
    have d0:=(of_decide_eq_true d0).2.2
    have hr:=hc.rng
    have w0:=hr.w0.1
    have o:=old_lt (now:=t.2.2.1) (w:=t.1.2.1.1) (m:=t.1.2.2.1.1) ⟨k.1,k.2,hr.w0.1,hr.w0.2⟩ hr.n0
    have q1:t.2.2.1 / t.1.2.1.1≤t.2.1 / t.1.2.1.1:=Int.ediv_le_ediv (by omega) h.clock.2.2
    have q2:t.2.1 / t.1.2.1.1≤y.2.1 / t.1.2.1.1:=by rw[Int.le_ediv_iff_mul_le (by omega)];exact hy
    omega
theorem dead_old {s:Sta} (h:StaOk s) {last:Int} (hd:deadV s.1 last s.2.1=true):last<mk s∧∀e:Ev,e.1≤last→OldE s.1 (olds s.1 s.2.1) e:=by
  unfold deadV at hd
  simp only[Bool.and_eq_true,decide_eq_true_eq] at hd
  obtain ⟨hc,d0,d1,d2⟩:=hd
  unfold goneV at d0 d1 d2
  have d0:=(of_decide_eq_true d0).2.2;have d1:=(of_decide_eq_true d1).2.2;have d2:=(of_decide_eq_true d2).2.2
  have hr:=hc.rng
  have w0:=hr.w0.1;have w1:=hr.w1.1;have w2:=hr.w2.1
  have hcl:=h.clock.1
  have o:=old_lt (now:=s.2.1) (w:=s.1.2.1.1) (m:=s.1.2.2.1.1) ⟨hcl.1,hcl.2,hr.w0.1,hr.w0.2⟩ hr.n0
  constructor
  · rcases Int.lt_or_le last (mk s) with k | k
    · exact k
    · have q2:s.2.1 / s.1.2.1.1≤last / s.1.2.1.1:=by rw[Int.le_ediv_iff_mul_le (by omega)];exact k
      omega
  · intro e he
    have a0:e.1 / s.1.2.1.1≤last / s.1.2.1.1:=Int.ediv_le_ediv (by omega) he
    have a1:e.1 / s.1.2.1.2.1≤last / s.1.2.1.2.1:=Int.ediv_le_ediv (by omega) he
    have a2:e.1 / s.1.2.1.2.2≤last / s.1.2.1.2.2:=Int.ediv_le_ediv (by omega) he
    unfold OldE olds
    exact ⟨by simp only;omega,by simp only;omega,by simp only;omega⟩
theorem inv_le {c:Conf} {x:Ser} {l:List Ev} (h:SerInv c x l):∀e∈l,e.1≤x.2.1:=by
  intro e he
  rcases h.last with ⟨k,_⟩ | k
  · rw[k] at he;cases he
  · exact k.le e he
theorem inv_foll {c:Conf} {x:Ser} {l:List Ev} {e:Ev} (h:SerInv c x l) (he:EvOk e) (hlt:x.2.1<e.1):Foll (l++[e]):=by
  refine foll_append.2 ⟨h.foll,⟨by simp[he],by simp⟩,fun a ha b hb => ?_⟩
  simp at hb;subst hb
  have:=inv_le h a ha
  omega
theorem Sim.step {N:Nat} {s t:Sta} (h:Sim N s t) {l:List Lab} {i j:Nat} {x' y':Ser} (hi:i<s.2.2.2.length) (hj:j<t.2.2.2.length) (hR:Rel s.1 s.2.1 (N+1) x' y') (hl:y'.1=l) (hnx:x'≠ser0) (hly:LvX t y')
    (ds:∀x,s.2.2.2[i]? = some x→x≠ser0→x.1=l) (dt:∀y,t.2.2.2[j]? = some y→LvX t y→y.1=l)
    (us:∀(i':Nat) x,s.2.2.2[i']? = some x→x≠ser0→x.1=l→i'=i) (ut:∀(j':Nat) y,t.2.2.2[j']? = some y→LvX t y→y.1=l→j'=j)
    (hs':StaInv (N+1) (setS s i x')) (ok':StaOk (setS t j y')) (w':StaW (setS t j y')):Sim (N+1) (setS s i x') (setS t j y'):=by
  refine ⟨h.c,h.clk,hs',ok',w',h.sw,by simpa [setS] using h.len,fun j1 y1 hy1 hl1 => ?_,fun i1 x1 hx1 hn1 => ?_⟩
  · rw[setS_get] at hy1
    by_cases e:j=j1
    · subst e
      rw[if_pos rfl,if_pos hj] at hy1
      injection hy1 with hy1;subst hy1
      exact ⟨i,x',by rw[setS_get,if_pos rfl,if_pos hi],hnx,hR⟩
    · rw[if_neg e] at hy1
      have hl1:LvX t y1:=hl1
      obtain ⟨i1,x1,hx1,hn1,hr1⟩:=h.rel j1 y1 hy1 hl1
      have hne:i≠i1:=by
        intro q;subst q
        exact e (ut j1 y1 hy1 hl1 (by rw[←hr1.lab];exact ds x1 hx1 hn1)).symm
      exact ⟨i1,x1,by rw[setS_get,if_neg hne];exact hx1,hn1,hr1.mono (Int.le_refl _) (Int.le_refl _) (Int.le_refl _) (Nat.le_succ N)⟩
  · rw[setS_get] at hx1
    by_cases e:i=i1
    · subst e
      rw[if_pos rfl,if_pos hi] at hx1
      injection hx1 with hx1;subst hx1
      exact .inl ⟨j,y',by rw[setS_get,if_pos rfl,if_pos hj],hly,by rw[hR.lab]⟩
    · rw[if_neg e] at hx1
      rcases h.back i1 x1 hx1 hn1 with ⟨j1,y1,hy1,hl1,e1⟩ | k
      · have hne:j≠j1:=by
          intro q;subst q
          exact e (us i1 x1 hx1 hn1 (by rw[←e1];exact dt y1 hy1 hl1)).symm
        exact .inl ⟨j1,y1,by rw[setS_get,if_neg hne];exact hy1,hl1,e1⟩
      · exact .inr k
theorem Sim.room {N:Nat} {s t:Sta} (h:Sim N s t) {l:List Lab} (hf:findV t l=none) (hr:(∃i,roomV s=some i)∨∃i,findV s l=some i):∃j,roomV t=some j:=by
  cases ht:roomV t with
  | some j=>exact ⟨j,rfl⟩
  | none =>
    exfalso
    have hall:=roomV_none.1 ht
    have hp:(t.2.2.2.map (·.1)).Pairwise (· ≠ ·):=by
      rw[List.pairwise_map,List.pairwise_iff_getElem]
      intro a b ha hb hab e
      have:=find_uniq h.ok (List.getElem?_eq_getElem ha) (hall _ (List.getElem_mem ha)) (List.getElem?_eq_getElem hb) (hall _ (List.getElem_mem hb)) e
      omega
    have hsub:∀a∈t.2.2.2.map (·.1),a∈(s.2.2.2.filter fun x=>decide (x≠ser0)).map (·.1):=by
      intro a ha
      obtain ⟨y,hy,e⟩:=List.mem_map.1 ha
      obtain ⟨j,hj,ej⟩:=List.getElem_of_mem hy
      obtain ⟨i,x,hx,hn,hR⟩:=h.rel j y (by rw[List.getElem?_eq_getElem hj,ej]) (hall y hy)
      exact List.mem_map.2 ⟨x,List.mem_filter.2 ⟨List.mem_of_getElem? hx,decide_eq_true hn⟩,by rw[hR.lab,e]⟩
    rcases hr with ⟨i,hi⟩ | ⟨i,hi⟩
    · obtain ⟨x,hx,hnl,_⟩:=roomV_some.1 hi
      have h0:x=ser0:=Decidable.byContradiction fun k=>hnl ((h.lv x).2 k)
      have h1:=nodup_le _ _ hp hsub
      have h2:(s.2.2.2.filter fun x=>decide (x≠ser0)).length<s.2.2.2.length :=
        List.length_filter_lt_length_iff_exists.2 ⟨x,List.mem_of_getElem? hx,by simp[h0]⟩
      have:=h.len
      simp only[List.length_map] at h1
      omega
    · obtain ⟨x,hx,hl,hlv,_⟩:=findV_some.1 hi
      have hp':(l::t.2.2.2.map (·.1)).Pairwise (· ≠ ·):=by
        rw[List.pairwise_cons]
        refine ⟨fun a ha e => ?_,hp⟩
        obtain ⟨y,hy,ey⟩:=List.mem_map.1 ha
        exact findV_none.1 hf y hy ⟨by rw[ey,e],hall y hy⟩
      have h1:=nodup_le _ ((s.2.2.2.filter fun x=>decide (x≠ser0)).map (·.1)) hp' (fun a ha=>by
        rcases List.mem_cons.1 ha with k | k
        · rw[k];exact List.mem_map.2 ⟨x,List.mem_filter.2 ⟨List.mem_of_getElem? hx,decide_eq_true hlv.1⟩,hl⟩
        · exact hsub a k)
      have h2:=List.length_filter_le (fun x=>decide (x≠ser0)) s.2.2.2
      have:=h.len
      simp only[List.length_map,List.length_cons] at h1
      omega
theorem serOk_ne {c:Conf} {x:Ser} (h:SerOk c x):x≠ser0:=by
  intro k
  have:=h.lab.n0
  have e:x.1=[]:=congrArg Prod.fst k
  rw[e] at this;simp at this
theorem write_late {s:Sta} {l:List Lab} {e:Ev} (hg:Goes s l e) {i:Nat} {x:Ser} (hf:findV s l=some i) (hx:s.2.2.2[i]? = some x) (hle:e.1≤x.2.1):(writeV s l e).2=9:=by
  have e0:(whereV s l e).2.2=9:=by
    unfold whereV
    rw[if_neg (fun k=>k hg.st),if_neg (fun k=>k hg.lab),if_neg (fun k=>k hg.ev),if_neg (by have:=hg.lo;have:=hg.hi;omega),hf]
    simp only[hx,Option.getD_some]
    rw[if_pos hle]
  unfold writeV
  rw[if_pos (by rw[e0];decide),e0]
theorem write_full {s:Sta} {l:List Lab} {e:Ev} (hg:Goes s l e) (hf:findV s l=none) (hs:e.2.2.2=false) (hr:roomV s=none):(writeV s l e).2=7:=by
  have e0:(whereV s l e).2.2=7:=by
    unfold whereV
    rw[if_neg (fun k=>k hg.st),if_neg (fun k=>k hg.lab),if_neg (fun k=>k hg.ev),if_neg (by have:=hg.lo;have:=hg.hi;omega),hf]
    simp only
    rw[if_neg (by rw[hs];simp),hr]
  unfold writeV
  rw[if_pos (by rw[e0];decide),e0]
theorem place_one {s:Sta} (hs:StaOk s) {l:List Lab} {e:Ev} {i:Nat} {x:Ser} {b:Bool} (hp:PlaceAt s l e i x b):(∀x0,s.2.2.2[i]? = some x0→LvX s x0→x0.1=l)∧∀(i':Nat) x0,s.2.2.2[i']? = some x0→LvX s x0→x0.1=l→i'=i:=by
  cases hp with
  | found hf hx hl hlv ht =>
    refine ⟨fun x0 h0 _ => ?_,fun i' x0 h0 h1 h2=>find_uniq hs h0 h1 hx hlv (by rw[h2,hl])⟩
    rw[hx] at h0;injection h0 with h0
    rw[←h0];exact hl
  | room hf hs' hr =>
    refine ⟨fun x0 h0 h1 => ?_,fun i' x0 h0 h1 h2=>absurd ⟨h2,h1⟩ (findV_none.1 hf x0 (List.mem_of_getElem? h0))⟩
    obtain ⟨x1,hx1,hn,_⟩:=roomV_some.1 hr
    rw[hx1] at h0;injection h0 with h0
    rw[h0] at hn
    exact absurd h1 hn
theorem Sim.both {N:Nat} {s t:Sta} (h:Sim N s t) (hb:N<1000000) {l:List Lab} {e:Ev} (hg:Goes s l e) (hg':Goes t l e) {i j:Nat} {x x' y y':Ser} {b b':Bool} (hp:PlaceAt s l e i x b) (hput:putE s.1 x e=(x',0)) (hp':PlaceAt t l e j y b') (hput':putE t.1 y e=(y',0))
    (hex:∃lx y0 ly pre,SerInv s.1 x' lx∧SerInv s.1 y0 ly∧ly≠[]∧lx.length≤N+1∧Fad s.1 (olds s.1 s.2.1) y' y0∧lx=pre++ly∧∀e∈pre,OldE s.1 (olds s.1 s.2.1) e) :
    (writeV s l e).2=(writeV t l e).2∧Sim (N+1) (if (writeV s l e).2=0 then (writeV s l e).1 else s) (if (writeV t l e).2=0 then (writeV t l e).1 else t):=by
  have es:=write_at hg hp hput
  have et:=write_at hg' hp' hput'
  have hi:=inv_write h.hs hb l e
  have hw:=writeV_w h.w l e
  have ho:=staOk_write et
  rw[es,if_pos rfl] at hi
  rw[et] at hw
  rw[es,et]
  refine ⟨rfl,?_⟩
  rw[if_pos rfl,if_pos rfl]
  obtain ⟨p1,p2,p3,p4⟩:=place_ok hg hp
  obtain ⟨p1',p2',p3',p4'⟩:=place_ok hg' hp'
  obtain ⟨q1,q2,q3,q4,q5⟩:=serOk_put p1 hput
  obtain ⟨q1',q2',q3',q4',q5'⟩:=serOk_put p1' hput'
  obtain ⟨d1,d2⟩:=place_one h.hs.ok hp
  obtain ⟨d1',d2'⟩:=place_one h.ok hp'
  exact h.step p3 p3' ⟨by rw[q5,q5',p2,p2'],by rw[q4,q4'],hex⟩ (by rw[q5',p2']) (serOk_ne q1) (live_new h.ok (serOk_ne q1') (by rw[q4'];exact hg'.lo))
    (fun x0 h0 hn=>d1 x0 h0 ((h.lv x0).2 hn)) d1' (fun i' x0 h0 hn hl=>d2 i' x0 h0 ((h.lv x0).2 hn) hl) d2' hi ho hw
theorem Sim.write {N:Nat} {s t:Sta} (h:Sim N s t) (hb:N<1000000) (l:List Lab) (e:Ev) (hf:e.2.2.2=false):(writeV s l e).2=7 ∨
    ((writeV s l e).2=(writeV t l e).2∧Sim (N+1) (if (writeV s l e).2=0 then (writeV s l e).1 else s) (if (writeV t l e).2=0 then (writeV t l e).1 else t)):=by
  by_cases hg:Goes s l e
  case neg =>
    have a:=where_bad h.hs.ok hg
    have b:=where_bad h.ok (fun k=>hg ((goes_sim h l e).2 k))
    right
    rw[a,b,if_neg (bad_ne l e),if_neg (bad_ne l e)]
    exact ⟨rfl,h.mono (Nat.le_succ N)⟩
  have hg':=(goes_sim h l e).1 hg
  have hnew:=new_inv hg.st.whole.1 hg.lab
  obtain ⟨z',hz1,hz2⟩:=serInv_next hnew (inv_foll hnew hg.ev (by have:=hg.ev.t0;show (-1:Int)<e.1;omega)) (by simp)
  have hz1':putE t.1 (l,(-1,(r0w,(emp t.1,s0)))) e=(z',0):=by rw[←h.c];exact hz1
  cases ft:findV t l with
  | some j =>
    obtain ⟨y,hy,_⟩:=findV_some.1 ft
    obtain ⟨hly,hyl,i,x,fs,hx,hn,hr⟩:=h.found ft hy
    right
    by_cases hlt:x.2.1<e.1
    case neg =>
      rw[write_late hg fs hx (by omega),write_late hg' ft hy (by rw[←hr.last];omega),if_neg (by decide),if_neg (by decide)]
      exact ⟨rfl,h.mono (Nat.le_succ N)⟩
    obtain ⟨lx,y0,ly,pre,q1,q2,q3,q4,q5,q6,q7⟩:=hr.ex
    have hll:ly.length≤lx.length:=by rw[q6];simp
    obtain ⟨x',hput,hx'⟩:=serInv_next q1 (inv_foll q1 hg.ev hlt) (by omega)
    have hoky:SerOk s.1 y:=by rw[h.c];exact (live_ok h.ok (List.mem_of_getElem? hy) hly).1
    obtain ⟨y0',hp0,hy0'⟩:=serInv_next q2 (inv_foll q2 hg.ev (by rw[←q5.last,←hr.last];exact hlt)) (by omega)
    obtain ⟨y',hput',hfad⟩:=q5.putE hoky (serInv_ok q2) hp0
    exact h.both hb hg hg' (.found fs hx (by rw[hr.lab,hyl]) ((h.lv x).2 hn) hlt) hput (.found ft hy hyl hly (by rw[←hr.last];exact hlt)) (by rw[←h.c];exact hput')
      ⟨lx++[e],y0',ly++[e],pre,hx',hy0',by simp,by simp;omega,hfad,by rw[q6,List.append_assoc],q7⟩
  | none =>
    rcases h.lost ft with k0 | ⟨i,x,fs,hx,hn,hxl,hd⟩
    · cases hr:roomV s with
      | none=>exact .inl (write_full hg k0 hf hr)
      | some i =>
        obtain ⟨j,hj⟩:=h.room ft (.inl ⟨i,hr⟩)
        exact .inr (h.both hb hg hg' (.room k0 hf hr) hz1 (.room ft hf hj) hz1' ⟨[]++[e],z',[]++[e],[],hz2,hz2,by simp,by simp,.refl _ _ _,rfl,by simp⟩)
    · obtain ⟨hlt0,hold⟩:=dead_old h.hs.ok hd
      have hlt:x.2.1<e.1:=by have:=hg.lo;omega
      obtain ⟨lx,q1,q2,q3⟩:=(h.hs.ser x (List.mem_of_getElem? hx)).resolve_left hn
      obtain ⟨x',hput,hx'⟩:=serInv_next q1 (inv_foll q1 hg.ev hlt) (by omega)
      obtain ⟨j,hj⟩:=h.room ft (.inr ⟨i,fs⟩)
      exact .inr (h.both hb hg hg' (.found fs hx hxl ((h.lv x).2 hn) hlt) hput (.room ft hf hj) hz1' ⟨lx++[e],z',[]++[e],lx,hx',hz2,by simp,by simp;omega,.refl _ _ _,rfl,fun e' he'=>hold e' (inv_le q1 e' he')⟩)
end Go.Proofs.YtjeabebacegikaaGreatDoor
namespace Go.Proofs.YtjeabebacegikaaGreatDoor
open Go.Flat
set_option linter.unusedVariables false
theorem lvtop_begins11_eq (n:Nat)  : top_begins11 (n+1)  =
  obind (l10_Fit n ) fun r0 =>
  obind (stt_New n r0) fun r1 =>
  tif ((!(decide (r1.2=(0:Int))))) (
  some false) (
  obind (write_One n r1.1 ((((97:UInt8)::[]),[])::[]) ((2:Int),((1:Int),((0:Int),false)))) fun r2 =>
  obind (query_Do n r2.1 (((((97:UInt8)::[]),[])::[]),((1:Int),((0:Int),(10:Int))))) fun r3 =>
  obind (sweep_Do n r2.1) fun r4 =>
  tif ((decide (r2.2=(0:Int)))) (
  tif ((decide (r3.2=(0:Int)))) (
  tif ((decide (r3.1.1=(1:Int)))) (
  tif ((decide (r3.1.2.1.1=(1:Int)))) (
  tif ((decide (r4.2.1=(0:Int)))) (
  tif ((decide (r4.2.2=(0:Int)))) (
  some (decide (r4.1.2.2.1=(0:Int)))) (
  some false)) (
  some false)) (
  some false)) (
  some false)) (
  some false)) (
  some false)):=by kernel_rfl
theorem lvtop_begins11_0 (n:Nat):l10_Fit (n+39)=some (20,((10,(20,60)),((4,(5,6)),(3,9)))):=by kernel_rfl
theorem lvtop_begins11_1 (n:Nat):stt_New (n+39) (20,((10,(20,60)),((4,(5,6)),(3,9))))=some (((20,((10,(20,60)),((4,(5,6)),(3,9)))),(0,((-1),[([],(0,((0,(0,[])),(([],([],[])),(0,(0,((0,(0,(0,false))),((0,(0,(0,false))),((0,0),(0,(0,0))))))))))),([],(0,((0,(0,[])),(([],([],[])),(0,(0,((0,(0,(0,false))),((0,(0,(0,false))),((0,0),(0,(0,0))))))))))),([],(0,((0,(0,[])),(([],([],[])),(0,(0,((0,(0,(0,false))),((0,(0,(0,false))),((0,0),(0,(0,0)))))))))))]))),0):=by kernel_rfl
theorem lvtop_begins11_2 (n:Nat):write_One (n+39) ((20,((10,(20,60)),((4,(5,6)),(3,9)))),(0,((-1),[([],(0,((0,(0,[])),(([],([],[])),(0,(0,((0,(0,(0,false))),((0,(0,(0,false))),((0,0),(0,(0,0))))))))))),([],(0,((0,(0,[])),(([],([],[])),(0,(0,((0,(0,(0,false))),((0,(0,(0,false))),((0,0),(0,(0,0))))))))))),([],(0,((0,(0,[])),(([],([],[])),(0,(0,((0,(0,(0,false))),((0,(0,(0,false))),((0,0),(0,(0,0)))))))))))]))) [([97],[])] (2,(1,(0,false)))=some (((20,((10,(20,60)),((4,(5,6)),(3,9)))),(0,((-1),[([([97],[])],(2,((0,(0,[(2,(1,(0,false)))])),(([(0,(0,((0,(0,(0,false))),((0,(0,(0,false))),((0,0),(0,(0,0))))))),(0,(0,((0,(0,(0,false))),((0,(0,(0,false))),((0,0),(0,(0,0))))))),(0,(0,((0,(0,(0,false))),((0,(0,(0,false))),((0,0),(0,(0,0))))))),(0,(0,((0,(0,(0,false))),((0,(0,(0,false))),((0,0),(0,(0,0)))))))],([(0,(0,((0,(0,(0,false))),((0,(0,(0,false))),((0,0),(0,(0,0))))))),(0,(0,((0,(0,(0,false))),((0,(0,(0,false))),((0,0),(0,(0,0))))))),(0,(0,((0,(0,(0,false))),((0,(0,(0,false))),((0,0),(0,(0,0))))))),(0,(0,((0,(0,(0,false))),((0,(0,(0,false))),((0,0),(0,(0,0))))))),(0,(0,((0,(0,(0,false))),((0,(0,(0,false))),((0,0),(0,(0,0)))))))],[(0,(0,((0,(0,(0,false))),((0,(0,(0,false))),((0,0),(0,(0,0))))))),(0,(0,((0,(0,(0,false))),((0,(0,(0,false))),((0,0),(0,(0,0))))))),(0,(0,((0,(0,(0,false))),((0,(0,(0,false))),((0,0),(0,(0,0))))))),(0,(0,((0,(0,(0,false))),((0,(0,(0,false))),((0,0),(0,(0,0))))))),(0,(0,((0,(0,(0,false))),((0,(0,(0,false))),((0,0),(0,(0,0))))))),(0,(0,((0,(0,(0,false))),((0,(0,(0,false))),((0,0),(0,(0,0)))))))])),(0,(1,((2,(1,(0,false))),((2,(1,(0,false))),((0,0),(0,(0,0))))))))))),([],(0,((0,(0,[])),(([],([],[])),(0,(0,((0,(0,(0,false))),((0,(0,(0,false))),((0,0),(0,(0,0))))))))))),([],(0,((0,(0,[])),(([],([],[])),(0,(0,((0,(0,(0,false))),((0,(0,(0,false))),((0,0),(0,(0,0)))))))))))]))),0):=by kernel_rfl
theorem lvtop_begins11_3 (n:Nat):query_Do (n+39) ((20,((10,(20,60)),((4,(5,6)),(3,9)))),(0,((-1),[([([97],[])],(2,((0,(0,[(2,(1,(0,false)))])),(([(0,(0,((0,(0,(0,false))),((0,(0,(0,false))),((0,0),(0,(0,0))))))),(0,(0,((0,(0,(0,false))),((0,(0,(0,false))),((0,0),(0,(0,0))))))),(0,(0,((0,(0,(0,false))),((0,(0,(0,false))),((0,0),(0,(0,0))))))),(0,(0,((0,(0,(0,false))),((0,(0,(0,false))),((0,0),(0,(0,0)))))))],([(0,(0,((0,(0,(0,false))),((0,(0,(0,false))),((0,0),(0,(0,0))))))),(0,(0,((0,(0,(0,false))),((0,(0,(0,false))),((0,0),(0,(0,0))))))),(0,(0,((0,(0,(0,false))),((0,(0,(0,false))),((0,0),(0,(0,0))))))),(0,(0,((0,(0,(0,false))),((0,(0,(0,false))),((0,0),(0,(0,0))))))),(0,(0,((0,(0,(0,false))),((0,(0,(0,false))),((0,0),(0,(0,0)))))))],[(0,(0,((0,(0,(0,false))),((0,(0,(0,false))),((0,0),(0,(0,0))))))),(0,(0,((0,(0,(0,false))),((0,(0,(0,false))),((0,0),(0,(0,0))))))),(0,(0,((0,(0,(0,false))),((0,(0,(0,false))),((0,0),(0,(0,0))))))),(0,(0,((0,(0,(0,false))),((0,(0,(0,false))),((0,0),(0,(0,0))))))),(0,(0,((0,(0,(0,false))),((0,(0,(0,false))),((0,0),(0,(0,0))))))),(0,(0,((0,(0,(0,false))),((0,(0,(0,false))),((0,0),(0,(0,0)))))))])),(0,(1,((2,(1,(0,false))),((2,(1,(0,false))),((0,0),(0,(0,0))))))))))),([],(0,((0,(0,[])),(([],([],[])),(0,(0,((0,(0,(0,false))),((0,(0,(0,false))),((0,0),(0,(0,0))))))))))),([],(0,((0,(0,[])),(([],([],[])),(0,(0,((0,(0,(0,false))),((0,(0,(0,false))),((0,0),(0,(0,0)))))))))))]))) ([([97],[])],(1,(0,10)))=some ((1,((1,((2,(1,(0,false))),((2,(1,(0,false))),((0,0),(0,(0,0)))))),(((0,0),(0,0)),12))),0):=by kernel_rfl
theorem lvtop_begins11_4 (n:Nat):sweep_Do (n+39) ((20,((10,(20,60)),((4,(5,6)),(3,9)))),(0,((-1),[([([97],[])],(2,((0,(0,[(2,(1,(0,false)))])),(([(0,(0,((0,(0,(0,false))),((0,(0,(0,false))),((0,0),(0,(0,0))))))),(0,(0,((0,(0,(0,false))),((0,(0,(0,false))),((0,0),(0,(0,0))))))),(0,(0,((0,(0,(0,false))),((0,(0,(0,false))),((0,0),(0,(0,0))))))),(0,(0,((0,(0,(0,false))),((0,(0,(0,false))),((0,0),(0,(0,0)))))))],([(0,(0,((0,(0,(0,false))),((0,(0,(0,false))),((0,0),(0,(0,0))))))),(0,(0,((0,(0,(0,false))),((0,(0,(0,false))),((0,0),(0,(0,0))))))),(0,(0,((0,(0,(0,false))),((0,(0,(0,false))),((0,0),(0,(0,0))))))),(0,(0,((0,(0,(0,false))),((0,(0,(0,false))),((0,0),(0,(0,0))))))),(0,(0,((0,(0,(0,false))),((0,(0,(0,false))),((0,0),(0,(0,0)))))))],[(0,(0,((0,(0,(0,false))),((0,(0,(0,false))),((0,0),(0,(0,0))))))),(0,(0,((0,(0,(0,false))),((0,(0,(0,false))),((0,0),(0,(0,0))))))),(0,(0,((0,(0,(0,false))),((0,(0,(0,false))),((0,0),(0,(0,0))))))),(0,(0,((0,(0,(0,false))),((0,(0,(0,false))),((0,0),(0,(0,0))))))),(0,(0,((0,(0,(0,false))),((0,(0,(0,false))),((0,0),(0,(0,0))))))),(0,(0,((0,(0,(0,false))),((0,(0,(0,false))),((0,0),(0,(0,0)))))))])),(0,(1,((2,(1,(0,false))),((2,(1,(0,false))),((0,0),(0,(0,0))))))))))),([],(0,((0,(0,[])),(([],([],[])),(0,(0,((0,(0,(0,false))),((0,(0,(0,false))),((0,0),(0,(0,0))))))))))),([],(0,((0,(0,[])),(([],([],[])),(0,(0,((0,(0,(0,false))),((0,(0,(0,false))),((0,0),(0,(0,0)))))))))))])))=some (((20,((10,(20,60)),((4,(5,6)),(3,9)))),(0,(0,[([([97],[])],(2,((0,(0,[(2,(1,(0,false)))])),(([(0,(0,((0,(0,(0,false))),((0,(0,(0,false))),((0,0),(0,(0,0))))))),(0,(0,((0,(0,(0,false))),((0,(0,(0,false))),((0,0),(0,(0,0))))))),(0,(0,((0,(0,(0,false))),((0,(0,(0,false))),((0,0),(0,(0,0))))))),(0,(0,((0,(0,(0,false))),((0,(0,(0,false))),((0,0),(0,(0,0)))))))],([(0,(0,((0,(0,(0,false))),((0,(0,(0,false))),((0,0),(0,(0,0))))))),(0,(0,((0,(0,(0,false))),((0,(0,(0,false))),((0,0),(0,(0,0))))))),(0,(0,((0,(0,(0,false))),((0,(0,(0,false))),((0,0),(0,(0,0))))))),(0,(0,((0,(0,(0,false))),((0,(0,(0,false))),((0,0),(0,(0,0))))))),(0,(0,((0,(0,(0,false))),((0,(0,(0,false))),((0,0),(0,(0,0)))))))],[(0,(0,((0,(0,(0,false))),((0,(0,(0,false))),((0,0),(0,(0,0))))))),(0,(0,((0,(0,(0,false))),((0,(0,(0,false))),((0,0),(0,(0,0))))))),(0,(0,((0,(0,(0,false))),((0,(0,(0,false))),((0,0),(0,(0,0))))))),(0,(0,((0,(0,(0,false))),((0,(0,(0,false))),((0,0),(0,(0,0))))))),(0,(0,((0,(0,(0,false))),((0,(0,(0,false))),((0,0),(0,(0,0))))))),(0,(0,((0,(0,(0,false))),((0,(0,(0,false))),((0,0),(0,(0,0)))))))])),(0,(1,((2,(1,(0,false))),((2,(1,(0,false))),((0,0),(0,(0,0))))))))))),([],(0,((0,(0,[])),(([],([],[])),(0,(0,((0,(0,(0,false))),((0,(0,(0,false))),((0,0),(0,(0,0))))))))))),([],(0,((0,(0,[])),(([],([],[])),(0,(0,((0,(0,(0,false))),((0,(0,(0,false))),((0,0),(0,(0,0)))))))))))]))),(0,0)):=by kernel_rfl
theorem top_begins11_true (n:Nat):top_begins11 (n+40)=some true:=by
  rw[lvtop_begins11_eq]
  refine ob (lvtop_begins11_0 n) ?_
  refine ob (lvtop_begins11_1 n) ?_
  refine tf (by kernel_rfl) ?_
  refine ob (lvtop_begins11_2 n) ?_
  refine ob (lvtop_begins11_3 n) ?_
  refine ob (lvtop_begins11_4 n) ?_
  refine tt (by kernel_rfl) ?_
  refine tt (by kernel_rfl) ?_
  refine tt (by kernel_rfl) ?_
  refine tt (by kernel_rfl) ?_
  refine tt (by kernel_rfl) ?_
  refine tt (by kernel_rfl) ?_
  kernel_rfl
end Go.Proofs.YtjeabebacegikaaGreatDoor
namespace Go.Proofs.YtjeabebacegikaaGreatDoor
open Go.Flat Go.Plim
set_option linter.unusedVariables false
set_option linter.unusedSimpArgs false
abbrev Act:Type:=Int×((List Lab×Ev)×Int)
theorem small_l4 (n:Nat) (acts:List Act) (hL:acts.length≤9223372036854775807) (hw:∀x∈acts,x.2.1.1.length≤9223372036854775807):∀(rest pre:List Act) (f:Nat) (ix len:Int),acts=pre++rest→ix=pre.length→len=acts.length→rest.length<f →
    top_smallActs_l4 (n+1) f (acts,len,ix,())=some (.inl ())∨top_smallActs_l4 (n+1) f (acts,len,ix,())=some (.inr false):=by
  intro rest
  induction rest with
  | nil =>
    intro pre f ix len ha hi hl hf
    obtain ⟨f,rfl⟩:=fuel_succ hf
    subst hi;subst hl
    rw[List.append_nil] at ha
    subst ha
    rw[top_smallActs_l4_eq,decide_eq_false (by omega),tff]
    exact .inl rfl
  | cons x r ih =>
    intro pre f ix len ha hi hl hf
    obtain ⟨f,rfl⟩:=fuel_succ hf
    have hlen:acts.length=pre.length+(r.length+1):=by rw[ha];simp
    subst hi;subst hl
    have hat:at? acts (pre.length:Int)=some x:=by
      rw[ha];exact at_mid (pre:=pre) (rest:=r) rfl rfl
    rw[top_smallActs_l4_eq,decide_eq_true (by omega),tft,hat,obs]
    rcases l05_small n x.2.1.1 (hw x (by rw[ha];simp)) with h | h
    · rw[h];exact .inr rfl
    · rw[h,obs,show (decide ((1:Int)=0))=false from rfl,tff,w64 (by omega) (by omega)]
      exact ih (pre++[x]) f ((pre.length:Int)+1) (acts.length:Int) (by rw[ha];simp) (by simp) rfl (by simp at hf;omega)
theorem small_acts (n:Nat) (acts:List Act) (hL:acts.length≤9223372036854775807) (hw:∀x∈acts,x.2.1.1.length≤9223372036854775807):top_smallActs (n+2) acts=some false∨(top_smallActs (n+2) acts=some true∧acts.length≤40):=by
  rw[top_smallActs_eq,tfd]
  by_cases h:(40:Int)<((acts.length:Nat):Int)
  · rw[if_pos h];exact .inl rfl
  rw[if_neg h]
  rcases small_l4 n acts hL hw acts [] loopFuel 0 _ rfl rfl rfl (by unfold loopFuel;omega) with e | e
  · rw[e];exact .inr ⟨rfl,by omega⟩
  · rw[e];exact .inl rfl
theorem fits11 (n:Nat) (c:Conf):top_fits11 (n+8) c=some false∨(top_fits11 (n+8) c=some true∧(newSt c).2=0):=by
  rw[top_fits11_eq,stt_new_own n,obs,tfd]
  by_cases h:(newSt c).2=0
  case neg=>rw[if_neg h];exact .inl rfl
  rw[if_pos h]
  simp only[tfd]
  by_cases h1:((((newSt c).1.2.2.2.length:Nat):Int))≤8
  case neg=>rw[if_neg h1];exact .inl rfl
  rw[if_pos h1]
  by_cases h2:c.1≤60
  case neg=>rw[if_neg h2];exact .inl rfl
  rw[if_pos h2]
  by_cases h3:c.2.2.1.1≤40
  case neg=>rw[if_neg h3];exact .inl rfl
  rw[if_pos h3]
  by_cases h4:c.2.2.1.2.1≤40
  case neg=>rw[if_neg h4];exact .inl rfl
  rw[if_pos h4]
  by_cases h5:c.2.2.1.2.2≤40
  · rw[decide_eq_true h5];exact .inr ⟨rfl,h⟩
  · rw[decide_eq_false h5];exact .inl rfl
theorem acts_wf {acts:List Act} (ha:Wf (.slice tyTopA) acts):acts.length≤9223372036854775807∧(∀x∈acts,x.2.1.1.length≤9223372036854775807)∧∀x∈acts,EvW x.2.1.2 :=
  ⟨Nat.le_trans ha.1 (by decide),fun x hx=>Nat.le_trans (ha.2 x hx).2.1.1.1 (by decide),fun x hx=>ev_wf (ha.2 x hx).2.1.2⟩
theorem sim_new {c:Conf} (h:(newSt c).2=0):Sim 0 (newSt c).1 (newSt c).1:=by
  have hi:=inv_new h
  have h0:∀x∈(newSt c).1.2.2.2,x=ser0:=by
    intro x hx
    rcases hi.ser x hx with k | ⟨l,_,k2,k3⟩
    · exact k
    · exact absurd (List.eq_nil_of_length_eq_zero (by omega)) k2
  have hsw:(newSt c).1.2.2.1 = -1:=by
    unfold newSt at h ⊢
    split
    · split
      · rfl
      · rename_i h1 h2;rw[if_pos h1,if_neg h2] at h;exact absurd h h2
    · rename_i h1;rw[if_neg h1] at h;cases h
  exact ⟨rfl,rfl,hi,hi.ok,hi.w,hsw,rfl,fun j y hy hl=>absurd (h0 y (List.mem_of_getElem? hy)) hl.1,fun i x hx hn=>absurd (h0 x (List.mem_of_getElem? hx)) hn⟩
theorem act_both (n:Nat) {N:Nat} {s t:Sta} (h:Sim N s t) (hb:N<1000000) (x:Act) (hx:EvW x.2.1.2) (hk:x.1<2) (hf:x.1=0→x.2.1.2.2.2.2=false) :
    ∃s' v,top_Act_Do (n+25) x s=some (s',v)∧(v=7∨∃t',top_Act_Do (n+25) x t=some (t',v)∧Sim (N+1) s' t'):=by
  by_cases h0:x.1=0
  · have val:∀u:Sta,StaW u→top_Act_Do (n+25) x u=some (if (writeV u x.2.1.1 x.2.1.2).2=0 then (writeV u x.2.1.1 x.2.1.2).1 else u,(writeV u x.2.1.1 x.2.1.2).2):=fun u hu=>by
      rw[top_Act_Do_eq,tfd,if_pos h0,write_one n hu x.2.1.1 hx,obs,tfd]
      by_cases g:(writeV u x.2.1.1 x.2.1.2).2=0
      · rw[if_pos g,if_pos g]
      · rw[if_neg g,if_neg g]
    rw[val s h.hs.w]
    rcases h.write hb x.2.1.1 x.2.1.2 (hf h0) with k | ⟨k1,k2⟩
    · exact ⟨_,_,rfl,.inl k⟩
    · exact ⟨_,_,rfl,.inr ⟨_,by rw[val t h.w,k1],k2⟩⟩
  by_cases h1:x.1=1
  · have val:∀u:Sta,StaW u→top_Act_Do (n+25) x u=some ((tickV u x.2.2).1,0):=fun u hu=>by
      rw[top_Act_Do_eq,tfd,if_neg h0,tfd,if_pos h1,csc_tick (n+9) hu,obs]
    exact ⟨_,_,val s h.hs.w,.inr ⟨_,val t h.w,(h.tick x.2.2).mono (Nat.le_succ N)⟩⟩
  · have val:∀u:Sta,top_Act_Do (n+25) x u=some (u,0):=fun u=>by
      rw[top_Act_Do_eq,tfd,if_neg h0,tfd,if_neg h1,tfd,if_neg (by omega),tfd,if_neg (by omega)]
    exact ⟨_,_,val s,.inr ⟨_,val t,h.mono (Nat.le_succ N)⟩⟩
theorem act_swept (n:Nat) {N:Nat} {s t:Sta} (h:Sim N s t) (x:Act) (hk:2≤x.1):∃t',top_Act_Do (n+25) x t=some (t',0)∧Sim (N+1) s t':=by
  rw[top_Act_Do_eq,tfd,if_neg (by omega),tfd,if_neg (by omega),tfd]
  by_cases h2:x.1=2
  · rw[if_pos h2,sweep_do (n+8) h.w,obs]
    have e:doV t=(sweptS t,(((dueV t).length:Int),0)):=by unfold doV;rw[if_pos h.ok]
    rw[e]
    exact ⟨_,rfl,h.sweep.mono (Nat.le_succ N)⟩
  rw[if_neg h2,tfd]
  by_cases h3:x.1=3
  · rw[if_pos h3,sweep_clean (n+9) h.w,obs]
    have e:cleanV t=(cleanS t,0):=by unfold cleanV;rw[if_pos h.ok]
    rw[e]
    exact ⟨_,rfl,h.clean.mono (Nat.le_succ N)⟩
  rw[if_neg h3]
  exact ⟨_,rfl,h.mono (Nat.le_succ N)⟩
theorem swept_l10 (n:Nat) (q:List Lab×(Int×(Int×Int))) (acts:List Act) (hL:acts.length≤40) (he:∀x∈acts,EvW x.2.1.2):∀(rest pre:List Act) (f:Nat) (s t:Sta) (ix len:Int),acts=pre++rest→ix=pre.length→len=acts.length→rest.length<f→Sim pre.length s t →
    top_TopSwept_l10 (n+25) f (q,s,t,acts,len,ix,())=some (.inl ())∨top_TopSwept_l10 (n+25) f (q,s,t,acts,len,ix,())=some (.inr true):=by
  intro rest
  induction rest with
  | nil =>
    intro pre f s t ix len ha hi hl hf hs
    obtain ⟨f,rfl⟩:=fuel_succ hf
    subst hi;subst hl
    rw[List.append_nil] at ha
    subst ha
    rw[top_TopSwept_l10_eq,decide_eq_false (by omega),tff]
    exact .inl rfl
  | cons x r ih =>
    intro pre f s t ix len ha hi hl hf hs
    obtain ⟨f,rfl⟩:=fuel_succ hf
    have hlen:acts.length=pre.length+(r.length+1):=by rw[ha];simp
    subst hi;subst hl
    have hat:at? acts (pre.length:Int)=some x:=by
      rw[ha];exact at_mid (pre:=pre) (rest:=r) rfl rfl
    have next:∀s' t':Sta,Sim (pre.length+1) s' t'→top_TopSwept_l10 (n+25) f (q,s',t',acts,(acts.length:Int),(pre.length:Int)+1,())=some (.inl ())∨top_TopSwept_l10 (n+25) f (q,s',t',acts,(acts.length:Int),(pre.length:Int)+1,())=some (.inr true):=fun s' t' h' =>
      ih (pre++[x]) f s' t' ((pre.length:Int)+1) (acts.length:Int) (by rw[ha];simp) (by simp) rfl (by simp at hf;omega) (by simpa using h')
    rw[top_TopSwept_l10_eq,decide_eq_true (by omega),tft,hat,obs,w64 (by omega) (by omega)]
    by_cases hk:x.1<2
    · by_cases hfl:x.1=0∧x.2.1.2.2.2.2=true
      · rw[decide_eq_true hfl.1,tft,hfl.2,tft]
        exact .inr rfl
      obtain ⟨s',v,e1,e2⟩:=act_both n hs (by omega) x (he x (by rw[ha];simp)) hk (fun k=>by
        cases g:x.2.1.2.2.2.2 with
        | false=>rfl
        | true=>exact absurd ⟨k,g⟩ hfl)
      rw[decide_eq_true hk,tft,e1,obs]
      have d7:∀(α:Type) (a b:α),tif (decide (v=7)) a b=if v=7 then a else b:=fun α a b=>tfd _ _ _
      simp only[d7]
      by_cases g7:v=7
      · rw[if_pos g7]
        by_cases h0:x.1=0
        · have hfa:x.2.1.2.2.2.2=false:=by
            cases g:x.2.1.2.2.2.2 with
            | false=>rfl
            | true=>exact absurd ⟨h0,g⟩ hfl
          rw[decide_eq_true h0,tft,hfa,tff]
          exact .inr rfl
        · rw[decide_eq_false h0,tff]
          exact .inr rfl
      obtain ⟨t',e3,h'⟩:=e2.resolve_left g7
      rw[if_neg g7,e3,obs,query_do (n+1) h'.hs.w,obs,query_do (n+1) h'.w,obs,←h'.doQ,stt_check (n+11) h'.w,obs,if_pos h'.ok]
      simp only[decide_true,beq_self_eq_true,Bool.and_self,Bool.not_true,tff]
      by_cases h0:x.1=0
      · have hfa:x.2.1.2.2.2.2=false:=by
          cases g:x.2.1.2.2.2.2 with
          | false=>rfl
          | true=>exact absurd ⟨h0,g⟩ hfl
        rw[decide_eq_true h0,tft,hfa,tff]
        exact next s' t' h'
      · rw[decide_eq_false h0,tff]
        exact next s' t' h'
    · obtain ⟨t',e3,h'⟩:=act_swept n hs x (by omega)
      rw[decide_eq_false (show ¬x.1=0 by omega),tff,decide_eq_false hk,tff,e3,obs,query_do (n+1) h'.hs.w,obs,query_do (n+1) h'.w,obs,←h'.doQ,stt_check (n+11) h'.w,obs,if_pos h'.ok]
      simp only[decide_true,beq_self_eq_true,Bool.and_self,Bool.not_true,tff]
      exact next s t' h'
theorem topSwept_true (n:Nat) (c:Conf) (acts:List Act) (q:List Lab×(Int×(Int×Int))) (hc:Wf tyConfig c) (ha:Wf (.slice tyTopA) acts) (hq:Wf tyAsk q):top_TopSwept (n+41) c acts q=some true:=by
  obtain ⟨a1,a2,a3⟩:=acts_wf ha
  rw[top_TopSwept_eq,top_begins11_true n,obs,tfn,tft]
  rcases fits11 (n+32) c with h | ⟨h,h0⟩
  · rw[h];rfl
  rw[h,obs,tfn,tft]
  rcases small_acts (n+38) acts a1 a2 with h1 | ⟨h1,h40⟩
  · rw[h1];rfl
  rw[h1,obs,tfn,tft]
  rcases l05_small (n+39) q.1 (ask_labs hq) with h2 | h2
  · rw[h2];rfl
  rw[h2,obs,show (decide ((1:Int)=0))=false from rfl,tff,stt_new_own (n+33),obs,obs,tfn,tfd,if_pos h0,tfn,tfd,if_pos h0]
  rcases swept_l10 (n+15) q acts h40 a3 acts [] loopFuel (newSt c).1 (newSt c).1 0 _ rfl rfl rfl (by unfold loopFuel;omega) (sim_new h0) with e | e
  · rw[e];rfl
  · rw[e];rfl
end Go.Proofs.YtjeabebacegikaaGreatDoor
