/-
  Plain proofs about the functions of this seat, part 3 of 3.
-/
import Derived.Test.YtjeabebacegikaaGreatDoorQ2
import Derived.Test.YtjeabebacegikaaGreatDoorTr
namespace Go.Proofs.YtjeabebacegikaaGreatDoor
open Go.Flat Go.Plim
set_option linter.unusedVariables false
set_option linter.unusedSimpArgs false
structure Seg (c:Cel) (w lo hi:Int):Prop where
  ok:CellOk c
  w0:1≤w
  at':c=z0∨lo≤c.2.1.1 / w∧c.2.2.1.1 / w<hi
theorem seg_z0 {w lo hi:Int} (hw:1≤w):Seg z0 w lo hi:=⟨ok_z0,hw,.inl rfl⟩
theorem Seg.mono {c:Cel} {w a b a' b':Int} (h:Seg c w a b) (h1:a'≤a) (h2:b≤b'):Seg c w a' b' :=
  ⟨h.ok,h.w0,h.at'.imp id fun k=>⟨by omega,by omega⟩⟩
theorem seg_fits {c:Cel} {w i:Int} (h:FitsP c w i):Seg c w i (i+1):=⟨h.n.ok,h.w0,.inr ⟨by rw [h.f]; omega,by rw [h.l]; omega⟩⟩
theorem seg_ahead {a b:Cel} {w lo m m' hi:Int} (ha:Seg a w lo m) (hb:Seg b w m' hi) (h:m≤m'):Ahead a b:=by
  rcases ha.at' with k | ⟨_,k⟩
  · exact .inl k
  rcases hb.at' with q | ⟨q,_⟩
  · exact .inr (.inl q)
  refine .inr (.inr ?_)
  rcases Int.lt_or_le a.2.2.1.1 b.2.1.1 with u | u
  · exact u
  · have:=Int.ediv_le_ediv (c:=w) (by have:=ha.w0; omega) u
    omega
theorem seg_mrg {a b:Cel} {w lo m m' hi:Int} (ha:Seg a w lo m) (hb:Seg b w m' hi) (h:m≤m') (h1:lo≤m') (h2:m≤hi):mrgE a b=(mrg a b,0)∧Seg (mrg a b) w lo hi:=by
  have hah:=seg_ahead ha hb h
  refine ⟨mrgE_fine ha.ok hb.ok hah,mrg_ok ha.ok hb.ok hah,ha.w0,?_⟩
  unfold mrg
  by_cases za:a=z0
  · rw [if_pos za]; exact hb.at'.imp id fun k=>⟨by omega,k.2⟩
  · rw [if_neg za]
    obtain ⟨a1,a2⟩:=ha.at'.resolve_left za
    by_cases zb:b=z0
    · rw [if_pos zb]; exact .inr ⟨a1,by omega⟩
    · rw [if_neg zb]
      obtain ⟨b1,b2⟩:=hb.at'.resolve_left zb
      exact .inr ⟨a1,b2⟩
theorem allE_seg {w:Int}:∀ (L:List Slo) (lo hi:Int),1≤w→lo≤hi→Up L→(∀ s∈L,FitsP s.2 w s.1∧lo≤s.1∧s.1<hi) →
    Seg (allE z0 (L.map (·.2))).1 w lo hi∧∀ (c:Cel) (lo0:Int),lo0≤lo→Seg c w lo0 lo→allE c (L.map (·.2))=(mrg c (allE z0 (L.map (·.2))).1,0):=by
  intro L
  induction L with
  | nil =>
    intro lo hi hw _ _ _
    exact ⟨seg_z0 hw,fun c _ _ hc=>by simp only [List.map_nil,allE]; rw [mrg_z0]⟩
  | cons s L ih =>
    intro lo hi hw hle hu hs
    unfold Up at hu
    rw [List.pairwise_cons] at hu
    obtain ⟨hf,h1,h2⟩:=hs s (by simp)
    obtain ⟨i1,i2⟩:=ih (s.1+1) hi hw (by omega) hu.2 (fun x hx=>⟨(hs x (by simp [hx])).1,by have:=hu.1 x hx; omega,(hs x (by simp [hx])).2.2⟩)
    have sf:=seg_fits hf
    have e0:allE z0 ((s::L).map (·.2))=(mrg s.2 (allE z0 (L.map (·.2))).1,0):=by
      simp only [List.map_cons,allE]
      rw [mrgE_fine ok_z0 sf.ok (.inl rfl),z0_mrg,if_pos rfl]
      exact i2 s.2 s.1 (by omega) sf
    obtain ⟨_,q2⟩:=seg_mrg sf i1 (Int.le_refl _) (by omega) (by omega)
    rw [e0]
    refine ⟨q2.mono h1 (Int.le_refl _),fun c lo0 hl hc => ?_⟩
    obtain ⟨r1,r2⟩:=seg_mrg hc sf (by omega) (by omega) (by omega)
    simp only [List.map_cons,allE]
    rw [r1,if_pos rfl,i2 _ lo0 (by omega) r2,mrg_assoc hc.ok sf.ok i1.ok (seg_ahead hc sf (by omega)) (seg_ahead sf i1 (Int.le_refl _)) (seg_ahead hc i1 (by omega))]
theorem filter_split {l:List Slo} (hu:Up l) {i m j:Int} (h1:i≤m) (h2:m≤j):(l.filter fun s=>decide (i≤s.1∧s.1<j))=(l.filter fun s=>decide (i≤s.1∧s.1<m))++l.filter fun s=>decide (m≤s.1∧s.1<j):=by
  induction l with
  | nil=>rfl
  | cons s l ih =>
    unfold Up at hu
    rw [List.pairwise_cons] at hu
    have ih:=ih hu.2
    by_cases a:s.1<m
    · have b:¬ (m≤s.1∧s.1<j):=by omega
      by_cases c:i≤s.1
      · rw [List.filter_cons_of_pos (by simp; omega),List.filter_cons_of_pos (by simp; omega),List.filter_cons_of_neg (by simpa using b),ih]; rfl
      · rw [List.filter_cons_of_neg (by simp; omega),List.filter_cons_of_neg (by simp; omega),List.filter_cons_of_neg (by simpa using b),ih]
    · have e:(l.filter fun s=>decide (i≤s.1∧s.1<m))=[]:=by
        rw [List.filter_eq_nil_iff]
        intro x hx
        have:=hu.1 x hx
        simp; omega
      rw [e,List.nil_append] at ih
      rw [List.filter_cons_of_neg (p:=fun s:Slo=>decide (i≤s.1∧s.1<m)) (by simp; omega),e,List.nil_append]
      by_cases c:s.1<j
      · rw [List.filter_cons_of_pos (by simp; omega),List.filter_cons_of_pos (by simp; omega),ih]
      · rw [List.filter_cons_of_neg (by simp; omega),List.filter_cons_of_neg (by simp; omega),ih]
theorem allE_cons (c a:Cel) (A:List Cel):allE c (a::A)=if (mrgE c a).2=0 then allE (mrgE c a).1 A else (z0,(mrgE c a).2):=rfl
theorem allE_app:∀ (A B:List Cel) (c:Cel),(allE c A).2=0→allE c (A++B)=allE (allE c A).1 B:=by
  intro A
  induction A with
  | nil=>intro B c _; rfl
  | cons a A ih =>
    intro B c h
    rw [allE_cons] at h
    rw [List.cons_append,allE_cons,allE_cons]
    by_cases k:(mrgE c a).2=0
    · rw [if_pos k] at h
      rw [if_pos k,if_pos k,ih B _ h]
    · rw [if_neg k] at h; exact absurd h k
theorem tfold_seg {t:List Slo} {w i j:Int} (h:TierOk t w) (h0:0≤i) (hij:i≤j):Seg (tfold t i j).1 w i j∧(tfold t i j).2=0∧∀ (c:Cel) (lo0:Int),lo0≤i→Seg c w lo0 i→allE c (within t i j)=(mrg c (tfold t i j).1,0):=by
  unfold tfold
  rw [if_neg (by omega)]
  unfold within
  obtain ⟨k1,k2⟩:=allE_seg (w:=w) ((tall t).filter fun s=>decide (i≤s.1∧s.1<j)) i j h.w0 hij ((tall_up h).filter _) (fun s hs=>by
    obtain ⟨s1,s2⟩:=List.mem_filter.1 hs
    have s2:=of_decide_eq_true s2
    exact ⟨(tall_fits h s1).1,s2.1,s2.2⟩)
  exact ⟨k1,by rw [k2 z0 i (Int.le_refl _) (seg_z0 h.w0)],k2⟩
theorem tfold_split {t:List Slo} {w i m j:Int} (h:TierOk t w) (h0:0≤i) (h1:i≤m) (h2:m≤j):(tfold t i j).1=mrg (tfold t i m).1 (tfold t m j).1:=by
  obtain ⟨a1,a2,_⟩:=tfold_seg h h0 h1
  obtain ⟨b1,b2,b3⟩:=tfold_seg (j:=j) h (by omega:0≤m) h2
  have e:within t i j=within t i m++within t m j:=by
    unfold within
    rw [filter_split (tall_up h) h1 h2,List.map_append]
  have ea:tfold t i m=allE z0 (within t i m):=by unfold tfold; rw [if_neg (by omega)]
  rw [ea] at a1 a2 ⊢
  have:tfold t i j=allE z0 (within t i j):=by unfold tfold; rw [if_neg (by omega)]
  rw [this,e,allE_app _ _ _ a2,b3 _ i h1 a1]
theorem within_none {t:List Slo} {w a m j:Int} (h:TierOk t w) (hb:NoBehind t a) (ha:a≤m):within t m j=[]:=by
  have hn:=(noBehind_iff h _).1 hb
  unfold within
  rw [List.filter_eq_nil_iff.2 (fun s hs=>by have:=hn s hs; simp; omega)]
  rfl
theorem tfold_empty {t:List Slo} {w a m j:Int} (h:TierOk t w) (hb:NoBehind t a) (ha:a≤m) (h0:0≤m) (hm:m≤j):tfold t m j=(z0,0):=by
  unfold tfold; rw [if_neg (by omega),within_none h hb ha]; rfl
theorem ahead_mrg {a b c:Cel} (h1:Ahead a b) (h2:Ahead a c):Ahead a (mrg b c):=by
  unfold mrg
  by_cases zb:b=z0
  · rw [if_pos zb]; exact h2
  · rw [if_neg zb]
    by_cases zc:c=z0
    · rw [if_pos zc]; exact h1
    · rw [if_neg zc]
      rcases h1 with h | h | h
      · exact .inl h
      · exact absurd h zb
      · exact .inr (.inr h)
theorem z0_both:mrgE z0 z0=(z0,0):=by rw [mrgE_fine ok_z0 ok_z0 (.inl rfl),z0_mrg]
theorem range_split {t:List Slo} {w T i m j:Int} {cur:Cel} {ok:Prop} [Decidable ok] (hok:ok) (h:TierOk t w) (hb:T = -1∨NoBehind t (T / w)∧CellN cur∧cur.2.1.1 / w=T / w) (h0:0≤i) (h1:i<m) (h2:m<j) :
    mrgE (rangeV ok i m T w t (cur,0)).1 (rangeV ok m j T w t (cur,0)).1=((rangeV ok i j T w t (cur,0)).1,0):=by
  unfold rangeV
  simp only [if_pos hok]
  rw [if_neg (by omega:¬ i<0),if_neg (by omega:¬ m<i),if_neg (by omega:¬ m<0),if_neg (by omega:¬ j<m),if_neg (by omega:¬ i<0),if_neg (by omega:¬ j<i)]
  by_cases k1:T = -1
  · rw [if_pos k1,if_pos k1,if_pos k1]; exact z0_both
  rw [if_neg k1,if_neg k1,if_neg k1]
  obtain ⟨hb,hc,hf⟩:=hb.resolve_left k1
  obtain ⟨a1,a2,_⟩:=tfold_seg (j:=m) h h0 (by omega)
  obtain ⟨b1,b2,_⟩:=tfold_seg (i:=m) (j:=j) h (by omega) (by omega)
  have sp:=tfold_split (i:=i) (m:=m) (j:=j) h h0 (by omega) (by omega)
  by_cases k2:T / w<i
  · rw [if_pos k2,if_pos (by omega),if_pos k2,(seg_mrg a1 b1 (Int.le_refl _) (by omega) (by omega)).1,sp]
  rw [if_neg k2,if_neg k2]
  by_cases k3:j≤T / w
  · rw [if_pos (by omega),if_neg (by omega),if_pos k3,if_pos k3,(seg_mrg a1 b1 (Int.le_refl _) (by omega) (by omega)).1,sp]
  rw [if_neg k3,if_neg k3]
  have n0:¬ ((0:Int)≠0):=fun q=>q rfl
  rw [if_neg n0,if_neg n0,if_neg n0]
  by_cases k4:m≤T / w
  · rw [if_pos k4,if_neg (by omega)]
    obtain ⟨l1,l2⟩:=tfold_last (j:=j) h hb (by omega:0≤m) k4
    have ha2:=ahead_of h.w0 l2 (.inr hf)
    obtain ⟨_,l4⟩:=tfold_last (j:=m) h hb h0 (by omega:i≤T / w)
    have ha3:=ahead_of h.w0 l4 (.inr hf)
    have ha1:=seg_ahead a1 b1 (Int.le_refl _)
    obtain ⟨m1,m2⟩:=tfold_last (j:=j) h hb h0 (by omega:i≤T / w)
    rw [mrgE_fine l1 hc.ok ha2,mrgE_fine m1 hc.ok (ahead_of h.w0 m2 (.inr hf)),mrgE_fine a1.ok (mrg_ok l1 hc.ok ha2) (ahead_mrg ha1 ha3),sp,mrg_assoc a1.ok l1 hc.ok ha1 ha2 ha3]
  · rw [if_neg k4,if_pos (by omega)]
    have e:=tfold_empty (j:=j) h hb (by omega:T / w≤m) (by omega) (by omega)
    rw [e,mrg_z0] at sp
    obtain ⟨l1,l2⟩:=tfold_last (j:=m) h hb h0 (by omega:i≤T / w)
    have ha:=ahead_of h.w0 l2 (.inr hf)
    rw [e,sp,mrgE_fine l1 hc.ok ha,mrgE_fine (mrg_ok l1 hc.ok ha) ok_z0 (.inr (.inl rfl)),mrg_z0]
theorem rangeK_split {c:Conf} {s:Ser} (h:SerOk c s) (k:Int) {i m j:Int} (h0:0≤i) (h1:i<m) (h2:m<j):mrgE (rangeK c s k i m).1 (rangeK c s k m j).1=((rangeK c s k i j).1,0):=by
  have he:=serOk_ends3 h
  have non:s.2.1 = -1→∀ (a b w:Int) (t:List Slo) (z:Cel×Int),0≤a→a≤b→rangeV (SerOk c s) a b s.2.1 w t z=(z0,0):=fun hn a b w t z u v=>by
    unfold rangeV; rw [if_pos h,if_neg (by omega),if_neg (by omega),if_pos hn]
  unfold rangeK
  split
  · exact range_split h h.fold.t0 he.t0 h0 h1 h2
  split
  · by_cases hn:s.2.1 = -1
    · rw [non hn _ _ _ _ _ h0 (by omega),non hn _ _ _ _ _ (by omega) (by omega),non hn _ _ _ _ _ h0 (by omega)]; exact z0_both
    · obtain ⟨q,e,k1,k2,k3⟩:=he.t1.resolve_left hn
      rw [e]; exact range_split h h.fold.t1 (.inr ⟨k1,k2,k3⟩) h0 h1 h2
  · by_cases hn:s.2.1 = -1
    · rw [non hn _ _ _ _ _ h0 (by omega),non hn _ _ _ _ _ (by omega) (by omega),non hn _ _ _ _ _ h0 (by omega)]; exact z0_both
    · obtain ⟨q,e,k1,k2,k3⟩:=he.t2.resolve_left hn
      rw [e]; exact range_split h h.fold.t2 (.inr ⟨k1,k2,k3⟩) h0 h1 h2
end Go.Proofs.YtjeabebacegikaaGreatDoor

namespace Go.Proofs.YtjeabebacegikaaGreatDoor
open Go.Flat
set_option linter.unusedVariables false
theorem lvtop_begins11_eq (n:Nat)  : top_begins11 (n+1)  =
  obind (l10_Fit n ) fun r0 =>
  obind (state_New n r0) fun r1 =>
  tif ((!(decide (r1.2=(0:Int))))) (
  some false) (
  obind (write_One n r1.1 ((((97:UInt8)::[]),[])::[]) ((2:Int),((1:Int),((0:Int),false)))) fun r2 =>
  obind (query_Do n r2.1 (((((97:UInt8)::[]),[])::[]),((1:Int),((0:Int),(10:Int))))) fun r3 =>
  obind (sweep_Do n r2.1) fun r4 =>
  tif ((decide (r2.2=(0:Int)))) (
  tif ((decide (r3.2=(0:Int)))) (
  tif ((decide (r3.1.1=(1:Int)))) (
  tif ((decide (r3.1.2.1.1=(1:Int)))) (
  tif ((decide (r4.2.1=(0:Int)))) (
  tif ((decide (r4.2.2=(0:Int)))) (
  some (decide (r4.1.2.2.1=(0:Int)))) (
  some false)) (
  some false)) (
  some false)) (
  some false)) (
  some false)) (
  some false)):=by kernel_rfl
theorem lvtop_begins11_0 (n:Nat):l10_Fit (n+39)=some (20,((10,(20,60)),((4,(5,6)),(3,9)))):=by kernel_rfl
theorem lvtop_begins11_1 (n:Nat):state_New (n+39) (20,((10,(20,60)),((4,(5,6)),(3,9))))=some (((20,((10,(20,60)),((4,(5,6)),(3,9)))),(0,((-1),[([],(0,((0,(0,[])),(([],([],[])),(0,(0,((0,(0,(0,false))),((0,(0,(0,false))),((0,0),(0,(0,0))))))))))),([],(0,((0,(0,[])),(([],([],[])),(0,(0,((0,(0,(0,false))),((0,(0,(0,false))),((0,0),(0,(0,0))))))))))),([],(0,((0,(0,[])),(([],([],[])),(0,(0,((0,(0,(0,false))),((0,(0,(0,false))),((0,0),(0,(0,0)))))))))))]))),0):=by kernel_rfl
theorem lvtop_begins11_2 (n:Nat):write_One (n+39) ((20,((10,(20,60)),((4,(5,6)),(3,9)))),(0,((-1),[([],(0,((0,(0,[])),(([],([],[])),(0,(0,((0,(0,(0,false))),((0,(0,(0,false))),((0,0),(0,(0,0))))))))))),([],(0,((0,(0,[])),(([],([],[])),(0,(0,((0,(0,(0,false))),((0,(0,(0,false))),((0,0),(0,(0,0))))))))))),([],(0,((0,(0,[])),(([],([],[])),(0,(0,((0,(0,(0,false))),((0,(0,(0,false))),((0,0),(0,(0,0)))))))))))]))) [([97],[])] (2,(1,(0,false)))=some (((20,((10,(20,60)),((4,(5,6)),(3,9)))),(0,((-1),[([([97],[])],(2,((0,(0,[(2,(1,(0,false)))])),(([(0,(0,((0,(0,(0,false))),((0,(0,(0,false))),((0,0),(0,(0,0))))))),(0,(0,((0,(0,(0,false))),((0,(0,(0,false))),((0,0),(0,(0,0))))))),(0,(0,((0,(0,(0,false))),((0,(0,(0,false))),((0,0),(0,(0,0))))))),(0,(0,((0,(0,(0,false))),((0,(0,(0,false))),((0,0),(0,(0,0)))))))],([(0,(0,((0,(0,(0,false))),((0,(0,(0,false))),((0,0),(0,(0,0))))))),(0,(0,((0,(0,(0,false))),((0,(0,(0,false))),((0,0),(0,(0,0))))))),(0,(0,((0,(0,(0,false))),((0,(0,(0,false))),((0,0),(0,(0,0))))))),(0,(0,((0,(0,(0,false))),((0,(0,(0,false))),((0,0),(0,(0,0))))))),(0,(0,((0,(0,(0,false))),((0,(0,(0,false))),((0,0),(0,(0,0)))))))],[(0,(0,((0,(0,(0,false))),((0,(0,(0,false))),((0,0),(0,(0,0))))))),(0,(0,((0,(0,(0,false))),((0,(0,(0,false))),((0,0),(0,(0,0))))))),(0,(0,((0,(0,(0,false))),((0,(0,(0,false))),((0,0),(0,(0,0))))))),(0,(0,((0,(0,(0,false))),((0,(0,(0,false))),((0,0),(0,(0,0))))))),(0,(0,((0,(0,(0,false))),((0,(0,(0,false))),((0,0),(0,(0,0))))))),(0,(0,((0,(0,(0,false))),((0,(0,(0,false))),((0,0),(0,(0,0)))))))])),(0,(1,((2,(1,(0,false))),((2,(1,(0,false))),((0,0),(0,(0,0))))))))))),([],(0,((0,(0,[])),(([],([],[])),(0,(0,((0,(0,(0,false))),((0,(0,(0,false))),((0,0),(0,(0,0))))))))))),([],(0,((0,(0,[])),(([],([],[])),(0,(0,((0,(0,(0,false))),((0,(0,(0,false))),((0,0),(0,(0,0)))))))))))]))),0):=by kernel_rfl
theorem lvtop_begins11_3 (n:Nat):query_Do (n+39) ((20,((10,(20,60)),((4,(5,6)),(3,9)))),(0,((-1),[([([97],[])],(2,((0,(0,[(2,(1,(0,false)))])),(([(0,(0,((0,(0,(0,false))),((0,(0,(0,false))),((0,0),(0,(0,0))))))),(0,(0,((0,(0,(0,false))),((0,(0,(0,false))),((0,0),(0,(0,0))))))),(0,(0,((0,(0,(0,false))),((0,(0,(0,false))),((0,0),(0,(0,0))))))),(0,(0,((0,(0,(0,false))),((0,(0,(0,false))),((0,0),(0,(0,0)))))))],([(0,(0,((0,(0,(0,false))),((0,(0,(0,false))),((0,0),(0,(0,0))))))),(0,(0,((0,(0,(0,false))),((0,(0,(0,false))),((0,0),(0,(0,0))))))),(0,(0,((0,(0,(0,false))),((0,(0,(0,false))),((0,0),(0,(0,0))))))),(0,(0,((0,(0,(0,false))),((0,(0,(0,false))),((0,0),(0,(0,0))))))),(0,(0,((0,(0,(0,false))),((0,(0,(0,false))),((0,0),(0,(0,0)))))))],[(0,(0,((0,(0,(0,false))),((0,(0,(0,false))),((0,0),(0,(0,0))))))),(0,(0,((0,(0,(0,false))),((0,(0,(0,false))),((0,0),(0,(0,0))))))),(0,(0,((0,(0,(0,false))),((0,(0,(0,false))),((0,0),(0,(0,0))))))),(0,(0,((0,(0,(0,false))),((0,(0,(0,false))),((0,0),(0,(0,0))))))),(0,(0,((0,(0,(0,false))),((0,(0,(0,false))),((0,0),(0,(0,0))))))),(0,(0,((0,(0,(0,false))),((0,(0,(0,false))),((0,0),(0,(0,0)))))))])),(0,(1,((2,(1,(0,false))),((2,(1,(0,false))),((0,0),(0,(0,0))))))))))),([],(0,((0,(0,[])),(([],([],[])),(0,(0,((0,(0,(0,false))),((0,(0,(0,false))),((0,0),(0,(0,0))))))))))),([],(0,((0,(0,[])),(([],([],[])),(0,(0,((0,(0,(0,false))),((0,(0,(0,false))),((0,0),(0,(0,0)))))))))))]))) ([([97],[])],(1,(0,10)))=some ((1,((1,((2,(1,(0,false))),((2,(1,(0,false))),((0,0),(0,(0,0)))))),(((0,0),(0,0)),12))),0):=by kernel_rfl
theorem lvtop_begins11_4 (n:Nat):sweep_Do (n+39) ((20,((10,(20,60)),((4,(5,6)),(3,9)))),(0,((-1),[([([97],[])],(2,((0,(0,[(2,(1,(0,false)))])),(([(0,(0,((0,(0,(0,false))),((0,(0,(0,false))),((0,0),(0,(0,0))))))),(0,(0,((0,(0,(0,false))),((0,(0,(0,false))),((0,0),(0,(0,0))))))),(0,(0,((0,(0,(0,false))),((0,(0,(0,false))),((0,0),(0,(0,0))))))),(0,(0,((0,(0,(0,false))),((0,(0,(0,false))),((0,0),(0,(0,0)))))))],([(0,(0,((0,(0,(0,false))),((0,(0,(0,false))),((0,0),(0,(0,0))))))),(0,(0,((0,(0,(0,false))),((0,(0,(0,false))),((0,0),(0,(0,0))))))),(0,(0,((0,(0,(0,false))),((0,(0,(0,false))),((0,0),(0,(0,0))))))),(0,(0,((0,(0,(0,false))),((0,(0,(0,false))),((0,0),(0,(0,0))))))),(0,(0,((0,(0,(0,false))),((0,(0,(0,false))),((0,0),(0,(0,0)))))))],[(0,(0,((0,(0,(0,false))),((0,(0,(0,false))),((0,0),(0,(0,0))))))),(0,(0,((0,(0,(0,false))),((0,(0,(0,false))),((0,0),(0,(0,0))))))),(0,(0,((0,(0,(0,false))),((0,(0,(0,false))),((0,0),(0,(0,0))))))),(0,(0,((0,(0,(0,false))),((0,(0,(0,false))),((0,0),(0,(0,0))))))),(0,(0,((0,(0,(0,false))),((0,(0,(0,false))),((0,0),(0,(0,0))))))),(0,(0,((0,(0,(0,false))),((0,(0,(0,false))),((0,0),(0,(0,0)))))))])),(0,(1,((2,(1,(0,false))),((2,(1,(0,false))),((0,0),(0,(0,0))))))))))),([],(0,((0,(0,[])),(([],([],[])),(0,(0,((0,(0,(0,false))),((0,(0,(0,false))),((0,0),(0,(0,0))))))))))),([],(0,((0,(0,[])),(([],([],[])),(0,(0,((0,(0,(0,false))),((0,(0,(0,false))),((0,0),(0,(0,0)))))))))))])))=some (((20,((10,(20,60)),((4,(5,6)),(3,9)))),(0,(0,[([([97],[])],(2,((0,(0,[(2,(1,(0,false)))])),(([(0,(0,((0,(0,(0,false))),((0,(0,(0,false))),((0,0),(0,(0,0))))))),(0,(0,((0,(0,(0,false))),((0,(0,(0,false))),((0,0),(0,(0,0))))))),(0,(0,((0,(0,(0,false))),((0,(0,(0,false))),((0,0),(0,(0,0))))))),(0,(0,((0,(0,(0,false))),((0,(0,(0,false))),((0,0),(0,(0,0)))))))],([(0,(0,((0,(0,(0,false))),((0,(0,(0,false))),((0,0),(0,(0,0))))))),(0,(0,((0,(0,(0,false))),((0,(0,(0,false))),((0,0),(0,(0,0))))))),(0,(0,((0,(0,(0,false))),((0,(0,(0,false))),((0,0),(0,(0,0))))))),(0,(0,((0,(0,(0,false))),((0,(0,(0,false))),((0,0),(0,(0,0))))))),(0,(0,((0,(0,(0,false))),((0,(0,(0,false))),((0,0),(0,(0,0)))))))],[(0,(0,((0,(0,(0,false))),((0,(0,(0,false))),((0,0),(0,(0,0))))))),(0,(0,((0,(0,(0,false))),((0,(0,(0,false))),((0,0),(0,(0,0))))))),(0,(0,((0,(0,(0,false))),((0,(0,(0,false))),((0,0),(0,(0,0))))))),(0,(0,((0,(0,(0,false))),((0,(0,(0,false))),((0,0),(0,(0,0))))))),(0,(0,((0,(0,(0,false))),((0,(0,(0,false))),((0,0),(0,(0,0))))))),(0,(0,((0,(0,(0,false))),((0,(0,(0,false))),((0,0),(0,(0,0)))))))])),(0,(1,((2,(1,(0,false))),((2,(1,(0,false))),((0,0),(0,(0,0))))))))))),([],(0,((0,(0,[])),(([],([],[])),(0,(0,((0,(0,(0,false))),((0,(0,(0,false))),((0,0),(0,(0,0))))))))))),([],(0,((0,(0,[])),(([],([],[])),(0,(0,((0,(0,(0,false))),((0,(0,(0,false))),((0,0),(0,(0,0)))))))))))]))),(0,0)):=by kernel_rfl
theorem top_begins11_true (n:Nat):top_begins11 (n+40)=some true:=by
  rw [lvtop_begins11_eq]
  refine ob (lvtop_begins11_0 n) ?_
  refine ob (lvtop_begins11_1 n) ?_
  refine tf (by kernel_rfl) ?_
  refine ob (lvtop_begins11_2 n) ?_
  refine ob (lvtop_begins11_3 n) ?_
  refine ob (lvtop_begins11_4 n) ?_
  refine tt (by kernel_rfl) ?_
  refine tt (by kernel_rfl) ?_
  refine tt (by kernel_rfl) ?_
  refine tt (by kernel_rfl) ?_
  refine tt (by kernel_rfl) ?_
  refine tt (by kernel_rfl) ?_
  kernel_rfl
end Go.Proofs.YtjeabebacegikaaGreatDoor

namespace Go.Proofs.YtjeabebacegikaaGreatDoor
open Go.Flat Go.Plim
set_option linter.unusedVariables false
set_option linter.unusedSimpArgs false
theorem one_part {s:Sta} {k a b a' b':Int} (h:oneV s k a b=0) (ha:a≤a') (hb:b'≤b) (hab:a'<b') (h1:a' % tierW s.1 k=0) (h2:b' % tierW s.1 k=0):oneV s k a' b'=0:=by
  obtain ⟨s1,s2⟩:=one_ok h
  obtain ⟨wp,rp,_,_,e,_,_⟩:=span_ok s1
  have w1:=wp.1
  have r1:=rp.1; have r2:=rp.2
  have e':spanV a' b' (tierW s.1 k)=(a' / tierW s.1 k,(b' / tierW s.1 k,0)):=by
    unfold spanV
    rw [if_pos ⟨wp,by unfold RngP; omega⟩,if_pos ⟨h1,h2⟩]
  rw [e] at s2
  have:a / tierW s.1 k≤a' / tierW s.1 k:=Int.ediv_le_ediv (by omega) ha
  unfold oneV
  rw [e',if_pos rfl,if_neg (by simp only at s2 ⊢; omega)]
theorem div_lt {a m w:Int} (hw:1≤w) (ha:a % w=0) (hm:m % w=0) (h:a<m):a / w<m / w:=by
  have ea:a / w*w=a:=Int.ediv_mul_cancel_of_emod_eq_zero ha
  have em:m / w*w=m:=Int.ediv_mul_cancel_of_emod_eq_zero hm
  rcases Int.lt_or_le (a / w) (m / w) with k | k
  · exact k
  · have:=Int.mul_le_mul_of_nonneg_right (c:=w) k (by omega)
    omega
theorem cellQ_split {s:Sta} (hs:StaOk s) (l:List Lab) {k a m b:Int} (h:oneV s k a b=0) (h1:a<m) (h2:m<b) (hm:m % tierW s.1 k=0):mrgE (cellQ s l k a m) (cellQ s l k m b)=(cellQ s l k a b,0):=by
  obtain ⟨s1,s2⟩:=one_ok h
  obtain ⟨wp,rp,ha,hb,e,e1,e2⟩:=span_ok s1
  unfold cellQ
  cases hf:findV s l with
  | none=>exact z0_both
  | some i =>
    obtain ⟨x,hx,hxl,hlv,hok⟩:=found hs hf
    simp only [hx,Option.getD_some]
    exact rangeK_split hok k e1 (div_lt wp.1 ha hm h1) (div_lt wp.1 hm hb h2)
theorem adj {s:Sta} (hs:StaOk s) (l:List Lab) {t a m b:Int} (t1:1≤t) (t3:t≤3) (h1:a<m) (h2:m<b) (hm:0≤m→m % tierW s.1 (t-1)=0) (h:(doQ s l t a b).2=0) :
    ∃ A B R1 R2 R3,doQ s l t a b=((t,((mrgE A B).1,R1)),0)∧doQ s l t a m=((t,(A,R2)),0)∧doQ s l t m b=((t,(B,R3)),0)∧(mrgE A B).2=0∧CellOk A∧CellOk B:=by
  obtain ⟨_,hl,ho⟩:=(doQ_k t1 t3).1 h
  obtain ⟨s1,_⟩:=one_ok ho
  obtain ⟨wp,rp,ha,hb,_⟩:=span_ok s1
  have r1:=rp.1
  have hm:=hm (by omega)
  have o1:=one_part ho (Int.le_refl _) (by omega) h1 ha hm
  have o2:=one_part ho (by omega) (Int.le_refl _) h2 hm hb
  have sp:=cellQ_split hs l ho h1 h2 hm
  have val:∀ {x y:Int},oneV s (t-1) x y=0→∃ R,doQ s l t x y=((t,(cellQ s l (t-1) x y,R)),0):=fun {x y} hq=>by
    obtain ⟨_,_,ht,e⟩:=doQ_fine ((doQ_k (s:=s) (l:=l) t1 t3).2 ⟨hs,hl,hq⟩)
    obtain ⟨_,_,_,_,_,_,ek⟩:=tier_ok ht
    rw [ek t1] at e
    exact ⟨_,e⟩
  obtain ⟨R1,e1⟩:=val ho
  obtain ⟨R2,e2⟩:=val o1
  obtain ⟨R3,e3⟩:=val o2
  refine ⟨_,_,R1,R2,R3,?_,e2,e3,?_,cellQ_ok _ _ _ _ _,cellQ_ok _ _ _ _ _⟩
  · rw [e1,sp]
  · rw [sp]
theorem topAdjoining_true (n:Nat) (s:Sta) (q:List Lab×(Int×(Int×Int))) (mid:Int) (hs:Wf tyState s) (hq:Wf tyAsk q):top_TopAdjoining (n+41) s q mid=some true:=by
  have hw:=sta_wf hs
  obtain ⟨l,t,a,b⟩:=q
  rw [top_TopAdjoining_eq,top_begins11_true n,obind_some,tif_not,tif_true]
  simp only
  rcases l17_small (n+37) hw with h | ⟨h,_⟩
  · rw [h]; rfl
  rw [h,obind_some,show (decide ((1:Int)=0))=false from rfl,tif_false]
  rcases l05_small (n+39) l (ask_labs hq) with h1 | h1
  · rw [h1]; rfl
  rw [h1,obind_some,show (decide ((1:Int)=0))=false from rfl,tif_false,state_check (n+26) hw,obind_some,tif_not,tif_dec]
  by_cases hok:StaOk s
  case neg=>rw [if_neg hok,if_neg (by decide)]
  rw [if_pos hok,if_pos rfl,tif_dec]
  by_cases g1:t<1
  · rw [if_pos g1]
  rw [if_neg g1,tif_dec]
  by_cases g2:3<t
  · rw [if_pos g2]
  rw [if_neg g2,tif_dec]
  by_cases g3:mid≤a
  · rw [if_pos g3]
  rw [if_neg g3,tif_dec]
  by_cases g4:b≤mid
  · rw [if_pos g4]
  rw [if_neg g4,tier3 (by omega) (by omega)]
  have hr:=hok.whole.1.rng
  have w0:=hr.w0.1; have w1:=hr.w1.1; have w2:=hr.w2.1
  simp only [query_do (n+16) hw,obind_some,tif_not,tif_dec]
  have key:∀ w:Int,w=tierW s.1 (t-1)→1≤w→Int.tmod mid w=0→(0≤mid→mid % tierW s.1 (t-1)=0):=by
    intro w e hw1 hm h0
    rw [tmod_nn h0] at hm
    rw [← e]; exact hm
  rcases (by omega:t=1∨t=2∨t=3) with e | e | e
  · subst e
    rw [if_pos (by decide),if_neg (by omega)]
    by_cases gm:Int.tmod mid s.1.2.1.1=0
    case neg=>rw [if_neg gm]
    rw [if_pos gm]
    by_cases gq:(doQ s l 1 a b).2=0
    · obtain ⟨A,B,R1,R2,R3,e1,e2,e3,e4,okA,okB⟩:=adj hok l (by decide) (by decide) (by omega) (by omega) (key _ rfl w0 gm) gq
      rw [e1,e2,e3,if_pos rfl]
      simp only
      rw [cell_merge (n+34) (CelW.of okA) (CelW.of okB),obind_some,e4]
      simp only [decide_true,beq_self_eq_true,Bool.and_self,if_true,tif_true]
    · rw [if_neg gq,doQ_err gq]; rfl
  · subst e
    rw [if_neg (by decide),if_pos (by decide),if_neg (by omega)]
    by_cases gm:Int.tmod mid s.1.2.1.2.1=0
    case neg=>rw [if_neg gm]
    rw [if_pos gm]
    by_cases gq:(doQ s l 2 a b).2=0
    · obtain ⟨A,B,R1,R2,R3,e1,e2,e3,e4,okA,okB⟩:=adj hok l (by decide) (by decide) (by omega) (by omega) (key _ rfl w1 gm) gq
      rw [e1,e2,e3,if_pos rfl]
      simp only
      rw [cell_merge (n+34) (CelW.of okA) (CelW.of okB),obind_some,e4]
      simp only [decide_true,beq_self_eq_true,Bool.and_self,if_true,tif_true]
    · rw [if_neg gq,doQ_err gq]; rfl
  · subst e
    rw [if_neg (by decide),if_neg (by decide),if_pos (by decide),if_neg (by omega)]
    by_cases gm:Int.tmod mid s.1.2.1.2.2=0
    case neg=>rw [if_neg gm]
    rw [if_pos gm]
    by_cases gq:(doQ s l 3 a b).2=0
    · obtain ⟨A,B,R1,R2,R3,e1,e2,e3,e4,okA,okB⟩:=adj hok l (by decide) (by decide) (by omega) (by omega) (key _ rfl w2 gm) gq
      rw [e1,e2,e3,if_pos rfl]
      simp only
      rw [cell_merge (n+34) (CelW.of okA) (CelW.of okB),obind_some,e4]
      simp only [decide_true,beq_self_eq_true,Bool.and_self,if_true,tif_true]
    · rw [if_neg gq,doQ_err gq]; rfl
end Go.Proofs.YtjeabebacegikaaGreatDoor
