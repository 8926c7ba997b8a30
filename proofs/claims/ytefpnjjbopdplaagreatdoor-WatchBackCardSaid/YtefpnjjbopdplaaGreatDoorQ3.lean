/-
  Plain proofs about the functions of this seat, part 3 of 3.
-/
import Derived.Test.YtefpnjjbopdplaaGreatDoorQ2
import Derived.Test.YtefpnjjbopdplaaGreatDoorTr
import Derived.Test.YtefpnjjbopdplaaGreatDoorFlatM3
import Derived.KernelRfl
namespace Go.Proofs.YtefpnjjbopdplaaGreatDoor
open Go.Flat Go.Plim
set_option linter.unusedVariables false
set_option linter.unusedSimpArgs false
noncomputable def cellV (ok:Prop) [Decidable ok] (i last w:Int) (t:List Slo) (now:Cel×Int):Cel×Int :=
  if ok then (if i<0 then (z0,1) else if last = -1 then (z0,0) else if last / w<i then (z0,0) else if i=last / w then now else (tget t i,0)) else (z0,2)
noncomputable def rangeV (ok:Prop) [Decidable ok] (i j last w:Int) (t:List Slo) (now:Cel×Int):Cel×Int :=
  if ok then (if i<0 then (z0,1) else if j<i then (z0,1) else if last = -1 then (z0,0) else if last / w<i then tfold t i j else if j≤last / w then tfold t i j else if now.2≠0 then (z0,now.2) else mrgE (tfold t i j).1 now.1) else (z0,2)
theorem now2_w (c:Conf) (s:Ser):CelW (now2 c s).1:=by
  unfold now2;split
  · exact celW_z0
  · exact mrgE_w _ _
theorem r15_cell0 (n:Nat) (c:Conf) {s:Ser} (hw:SerW s) (i:Int):r15_Cell (n+10) c s 0 i=some (cellV (SerOk c s) i s.2.1 c.2.1.1 s.2.2.2.1.1 (s.2.2.2.2.2,0)):=by
  rw[r15_Cell_eq,r15_check (n+1) c hw]
  unfold cellV
  by_cases h:SerOk c s
  case neg=>rw[if_neg h,if_neg h];rfl
  rw[if_pos h,if_pos h]
  simp only[obs,decide_true,Bool.not_true,tff,tfd,if_neg (show ¬((0:Int)<0) by omega),if_neg (show ¬((2:Int)<0) by omega)]
  by_cases h1:i<0
  · rw[if_pos h1,if_pos h1];rfl
  rw[if_neg h1,if_neg h1]
  by_cases hn:s.2.1 = -1
  · rw[if_pos hn,r15_one_eq_0,hn];rfl
  rw[if_neg hn,one0 (n+6) c h hn i (by omega)]
  by_cases h2:s.2.1 / c.2.1.1<i
  · rw[if_pos h2,if_pos h2];rfl
  rw[if_neg h2,if_neg h2]
  by_cases h3:i=s.2.1 / c.2.1.1
  · rw[if_pos h3,if_neg (by omega)];rfl
  rw[if_neg h3,if_pos (by omega)];rfl
theorem kept_span0 (n:Nat) (c:Conf) {s:Ser} (h:SerOk c s) (hw:SerW s) {i j:Int} (h0:¬i<0) (hij:¬j<i):srk_span (n+21) (c,s) 0 i j=some (rangeV (SerOk c s) i j s.2.1 c.2.1.1 s.2.2.2.1.1 (s.2.2.2.2.2,0)):=by
  rw[srk_span_eq_0]
  unfold rangeV
  rw[if_pos h,if_neg h0,if_neg hij]
  simp only[tfd,tfn]
  by_cases hn:s.2.1 = -1
  · rw[if_pos hn,if_pos hn];rfl
  have hr:=h.fold.cok.rng
  have ht:=serOk_at h hn
  rw[if_neg hn,if_neg hn,if_neg (nz hr.w0.1),quo_at ht hr.w0.1,tier_fold (n+2) h.fold.t0]
  simp only[obs,tfold_none h.fold.t0 (show 0≤i by omega) (show i≤j by omega),if_true]
  by_cases h2:s.2.1 / c.2.1.1<i
  · rw[if_pos h2,if_pos h2]
  rw[if_neg h2,if_neg h2]
  by_cases h3:j≤s.2.1 / c.2.1.1
  · rw[if_pos h3,if_pos h3]
  rw[if_neg h3,if_neg h3,kept_now0 (n+19) c s]
  simp only[obs,cell_merge (n+14) (tfold_w _ _ _) hw.opn.c]
  rw[if_pos trivial,if_neg (nn rfl)]
theorem series_range0 (n:Nat) (c:Conf) {s:Ser} (hw:SerW s) (i j:Int):series_Range (n+22) c s 0 i j=some (rangeV (SerOk c s) i j s.2.1 c.2.1.1 s.2.2.2.1.1 (s.2.2.2.2.2,0)):=by
  rw[series_Range_eq,series_open_val (n+11) c hw]
  by_cases h:SerOk c s
  case neg=>unfold rangeV;rw[if_neg h,if_neg h];rfl
  rw[if_pos h]
  simp only[obs,oelim_some,decide_true,Bool.not_true,tff,tfd,if_neg (show ¬((0:Int)<0) by omega),if_neg (show ¬((3:Int)≤0) by omega)]
  by_cases h1:i<0
  · unfold rangeV;rw[if_pos h1,if_pos h,if_pos h1];rfl
  by_cases h2:j<i
  · unfold rangeV;rw[if_neg h1,if_pos h2,if_pos h,if_neg h1,if_pos h2];rfl
  rw[if_neg h1,if_neg h2,kept_span0 n c h hw h1 h2];rfl
theorem r15_cell1 (n:Nat) (c:Conf) {s:Ser} (hw:SerW s) (i:Int):r15_Cell (n+10) c s 1 i=some (cellV (SerOk c s) i s.2.1 c.2.1.2.1 s.2.2.2.1.2.1 (now1 c s)):=by
  rw[r15_Cell_eq,r15_check (n+1) c hw]
  unfold cellV
  by_cases h:SerOk c s
  case neg=>rw[if_neg h,if_neg h];rfl
  rw[if_pos h,if_pos h]
  simp only[obs,decide_true,Bool.not_true,tff,tfd,if_neg (show ¬((1:Int)<0) by omega),if_neg (show ¬((2:Int)<1) by omega)]
  by_cases h1:i<0
  · rw[if_pos h1,if_pos h1];rfl
  rw[if_neg h1,if_neg h1]
  by_cases hn:s.2.1 = -1
  · rw[if_pos hn,r15_one_eq_1,hn];rfl
  rw[if_neg hn,one1 (n+1) c h hw hn i (by omega)]
  by_cases h2:s.2.1 / c.2.1.2.1<i
  · rw[if_pos h2,if_pos h2];rfl
  rw[if_neg h2,if_neg h2]
  by_cases h3:i=s.2.1 / c.2.1.2.1
  · rw[if_pos h3,if_neg (by omega)];rfl
  rw[if_neg h3,if_pos (by omega)];rfl
theorem kept_span1 (n:Nat) (c:Conf) {s:Ser} (h:SerOk c s) (hw:SerW s) {i j:Int} (h0:¬i<0) (hij:¬j<i):srk_span (n+21) (c,s) 1 i j=some (rangeV (SerOk c s) i j s.2.1 c.2.1.2.1 s.2.2.2.1.2.1 (now1 c s)):=by
  rw[srk_span_eq_1]
  unfold rangeV
  rw[if_pos h,if_neg h0,if_neg hij]
  simp only[tfd,tfn]
  by_cases hn:s.2.1 = -1
  · rw[if_pos hn,if_pos hn];rfl
  have hr:=h.fold.cok.rng
  have ht:=serOk_at h hn
  rw[if_neg hn,if_neg hn,if_neg (nz hr.w1.1),quo_at ht hr.w1.1,tier_fold (n+2) h.fold.t1]
  simp only[obs,tfold_none h.fold.t1 (show 0≤i by omega) (show i≤j by omega),if_true]
  by_cases h2:s.2.1 / c.2.1.2.1<i
  · rw[if_pos h2,if_pos h2]
  rw[if_neg h2,if_neg h2]
  by_cases h3:j≤s.2.1 / c.2.1.2.1
  · rw[if_pos h3,if_pos h3]
  rw[if_neg h3,if_neg h3,kept_now1 (n+1) c h hw hn]
  simp only[obs,cell_merge (n+14) (tfold_w _ _ _) (now1_w c s)]
  by_cases h4:(now1 c s).2=0
  · rw[if_pos h4,if_neg (nn h4)]
  · rw[if_neg h4,if_pos h4];rfl
theorem series_range1 (n:Nat) (c:Conf) {s:Ser} (hw:SerW s) (i j:Int):series_Range (n+22) c s 1 i j=some (rangeV (SerOk c s) i j s.2.1 c.2.1.2.1 s.2.2.2.1.2.1 (now1 c s)):=by
  rw[series_Range_eq,series_open_val (n+11) c hw]
  by_cases h:SerOk c s
  case neg=>unfold rangeV;rw[if_neg h,if_neg h];rfl
  rw[if_pos h]
  simp only[obs,oelim_some,decide_true,Bool.not_true,tff,tfd,if_neg (show ¬((1:Int)<0) by omega),if_neg (show ¬((3:Int)≤1) by omega)]
  by_cases h1:i<0
  · unfold rangeV;rw[if_pos h1,if_pos h,if_pos h1];rfl
  by_cases h2:j<i
  · unfold rangeV;rw[if_neg h1,if_pos h2,if_pos h,if_neg h1,if_pos h2];rfl
  rw[if_neg h1,if_neg h2,kept_span1 n c h hw h1 h2];rfl
theorem kept_span2 (n:Nat) (c:Conf) {s:Ser} (h:SerOk c s) (hw:SerW s) {i j:Int} (h0:¬i<0) (hij:¬j<i):srk_span (n+21) (c,s) 2 i j=some (rangeV (SerOk c s) i j s.2.1 c.2.1.2.2 s.2.2.2.1.2.2 (now2 c s)):=by
  rw[srk_span_eq_2]
  unfold rangeV
  rw[if_pos h,if_neg h0,if_neg hij]
  simp only[tfd,tfn]
  by_cases hn:s.2.1 = -1
  · rw[if_pos hn,if_pos hn];rfl
  have hr:=h.fold.cok.rng
  have ht:=serOk_at h hn
  rw[if_neg hn,if_neg hn,if_neg (nz hr.w2.1),quo_at ht hr.w2.1,tier_fold (n+2) h.fold.t2]
  simp only[obs,tfold_none h.fold.t2 (show 0≤i by omega) (show i≤j by omega),if_true]
  by_cases h2:s.2.1 / c.2.1.2.2<i
  · rw[if_pos h2,if_pos h2]
  rw[if_neg h2,if_neg h2]
  by_cases h3:j≤s.2.1 / c.2.1.2.2
  · rw[if_pos h3,if_pos h3]
  rw[if_neg h3,if_neg h3,kept_now2 n c h hw hn]
  simp only[obs,cell_merge (n+14) (tfold_w _ _ _) (now2_w c s)]
  by_cases h4:(now2 c s).2=0
  · rw[if_pos h4,if_neg (nn h4)]
  · rw[if_neg h4,if_pos h4];rfl
theorem series_range2 (n:Nat) (c:Conf) {s:Ser} (hw:SerW s) (i j:Int):series_Range (n+22) c s 2 i j=some (rangeV (SerOk c s) i j s.2.1 c.2.1.2.2 s.2.2.2.1.2.2 (now2 c s)):=by
  rw[series_Range_eq,series_open_val (n+11) c hw]
  by_cases h:SerOk c s
  case neg=>unfold rangeV;rw[if_neg h,if_neg h];rfl
  rw[if_pos h]
  simp only[obs,oelim_some,decide_true,Bool.not_true,tff,tfd,if_neg (show ¬((2:Int)<0) by omega),if_neg (show ¬((3:Int)≤2) by omega)]
  by_cases h1:i<0
  · unfold rangeV;rw[if_pos h1,if_pos h,if_pos h1];rfl
  by_cases h2:j<i
  · unfold rangeV;rw[if_neg h1,if_pos h2,if_pos h,if_neg h1,if_pos h2];rfl
  rw[if_neg h1,if_neg h2,kept_span2 n c h hw h1 h2];rfl
theorem small_l2_3 (n f:Nat) (s:Trs):l14_Small_l2 n (f+1) (s,(3:Int),())=some (.inl ()):=by
  rw[l14_Small_l2_eq,show (decide ((3:Int)<3))=false from rfl,tff]
theorem small_l2_2 (n f:Nat) (s:Trs):l14_Small_l2 n (f+2) (s,(2:Int),())=some (if (40:Int)<s.2.2.length then .inr 0 else .inl ()):=by
  rw[l14_Small_l2_eq,show (decide ((2:Int)<3))=true from rfl,tft,show (decide ((2:Int)=0))=false from rfl,tff,show (decide ((2:Int)=1))=false from rfl,tff,show (decide ((2:Int)=2))=true from rfl,tft]
  rw[show IntKind.wrap .i64 ((2:Int)+1)=3 from rfl,small_l2_3]
  simp only[tfd]
  split<;>rfl
theorem small_l2_1 (n f:Nat) (s:Trs):l14_Small_l2 n (f+3) (s,(1:Int),())=some (if (40:Int)<s.2.1.length∨(40:Int)<s.2.2.length then .inr 0 else .inl ()):=by
  rw[l14_Small_l2_eq,show (decide ((1:Int)<3))=true from rfl,tft,show (decide ((1:Int)=0))=false from rfl,tff,show (decide ((1:Int)=1))=true from rfl,tft]
  rw[show IntKind.wrap .i64 ((1:Int)+1)=2 from rfl,small_l2_2]
  simp only[tfd]
  by_cases h:(40:Int)<s.2.1.length
  · rw[if_pos h,if_pos (.inl h)]
  · rw[if_neg h]
    by_cases h':(40:Int)<s.2.2.length
    · rw[if_pos h',if_pos (.inr h')]
    · rw[if_neg h',if_neg (fun k=>k.elim h h')]
theorem small_l2_0 (n f:Nat) (s:Trs):l14_Small_l2 n (f+4) (s,(0:Int),())=some (if (40:Int)<s.1.length∨(40:Int)<s.2.1.length∨(40:Int)<s.2.2.length then .inr 0 else .inl ()):=by
  rw[l14_Small_l2_eq,show (decide ((0:Int)<3))=true from rfl,tft,show (decide ((0:Int)=0))=true from rfl,tft]
  rw[show IntKind.wrap .i64 ((0:Int)+1)=1 from rfl,small_l2_1]
  simp only[tfd]
  by_cases h:(40:Int)<s.1.length
  · rw[if_pos h,if_pos (.inl h)]
  · rw[if_neg h]
    by_cases h':(40:Int)<s.2.1.length∨(40:Int)<s.2.2.length
    · rw[if_pos h',if_pos (.inr h')]
    · rw[if_neg h',if_neg (fun k=>k.elim h h')]
def Small14 (s:Trs):Prop:=s.1.length≤40∧s.2.1.length≤40∧s.2.2.length≤40
instance (s:Trs):Decidable (Small14 s):=by unfold Small14;infer_instance
theorem l14_small (n:Nat) (s:Trs):l14_Small (n+1) s=some (if Small14 s then 1 else 0):=by
  rw[l14_Small_eq,show loopFuel=(2^70-4)+4 from by decide,small_l2_0]
  by_cases h:Small14 s
  · rw[if_pos h,if_neg (by unfold Small14 at h;omega)];rfl
  · rw[if_neg h,if_pos (by unfold Small14 at h;omega)];rfl
theorem r05_same_l (n:Nat) (l:List Lab) (hL:l.length≤1000000):∀(rest pre:List Lab) (f:Nat) (ix len:Int),l=pre++rest→ix=pre.length→len=l.length→rest.length<f→r05_Same_l4 n f (l,l,len,ix,())=some (.inl ()):=by
  intro rest
  induction rest with
  | nil =>
    intro pre f ix len hl hi hn hf
    obtain ⟨f,rfl⟩:∃g,f=g+1:=⟨f-1,by simp at hf;omega⟩
    rw[r05_Same_l4_eq]
    simp only[tfd,if_neg (idxe hl hi hn)]
  | cons x rest ih =>
    intro pre f ix len hl hi hn hf
    obtain ⟨f,rfl⟩:∃g,f=g+1:=⟨f-1,by simp at hf;omega⟩
    rw[r05_Same_l4_eq]
    simp only[tfd,if_pos (idx hl hi hn),at_mid hl hi,obs,labEq,decide_true,Bool.not_true,tff,idxw hl hi (by omega)]
    exact ih (pre++[x]) f (ix+1) len (idxl hl) (idxs hi) hn (by simp at hf;omega)
structure SerL (s:Ser):Prop where
  l:s.1.length≤1000000
  r:s.2.2.1.2.2.length≤1000000
  a:s.2.2.2.1.1.length≤1000000
  b:s.2.2.2.1.2.1.length≤1000000
  d:s.2.2.2.1.2.2.length≤1000000
theorem series_check (n:Nat) (c:Conf) {s:Ser} (hw:SerW s):series_Check (n+11) c s=some (if SerOk c s then 0 else 2):=by
  rw[series_Check_eq,series_open_val n c hw]
  by_cases h:SerOk c s
  · rw[if_pos h,if_pos h];rfl
  · rw[if_neg h,if_neg h];rfl
theorem small05_l (n:Nat) (l:List Lab) (hL:l.length≤9223372036854775807):∀(rest pre:List Lab) (f:Nat) (ix len:Int),l=pre++rest→ix=pre.length→len=l.length→rest.length<f →
    l05_Small_l2 n f (l,len,ix,())=some (.inl ())∨l05_Small_l2 n f (l,len,ix,())=some (.inr 0):=by
  intro rest
  induction rest with
  | nil =>
    intro pre f ix len hl hi hn hf
    obtain ⟨f,rfl⟩:∃g,f=g+1:=⟨f-1,by simp at hf;omega⟩
    left
    rw[l05_Small_l2_eq]
    simp only[tfd,if_neg (idxe hl hi hn)]
  | cons x rest ih =>
    intro pre f ix len hl hi hn hf
    obtain ⟨f,rfl⟩:∃g,f=g+1:=⟨f-1,by simp at hf;omega⟩
    have hlen:=congrArg List.length hl
    simp at hlen
    rw[l05_Small_l2_eq]
    simp only[tfd,if_pos (idx hl hi hn),at_mid hl hi,obs]
    rw[w64 (x:=ix+1) (by omega) (by omega)]
    by_cases h1:ix=40
    · right;rw[if_pos h1]
    rw[if_neg h1]
    by_cases h2:(1000:Int)<x.1.length
    · right;rw[if_pos h2]
    rw[if_neg h2]
    by_cases h3:(1000:Int)<x.2.length
    · right;rw[if_pos h3]
    rw[if_neg h3]
    exact ih (pre++[x]) f (ix+1) len (idxl hl) (idxs hi) hn (by simp at hf;omega)
theorem l05_small (n:Nat) (l:List Lab) (hL:l.length≤9223372036854775807):l05_Small (n+1) l=some 0∨l05_Small (n+1) l=some 1:=by
  rw[l05_Small_eq]
  rcases small05_l n l hL l [] loopFuel 0 _ rfl rfl rfl (by unfold loopFuel;omega) with h | h
  · right;rw[h];rfl
  · left;rw[h];rfl
theorem l15_small (n:Nat) (s:Ser) (hL:s.1.length≤9223372036854775807):l15_Small (n+2) s=some 0∨l15_Small (n+2) s=some 1:=by
  rw[l15_Small_eq]
  rcases l05_small n s.1 hL with h | h
  · left;rw[h];rfl
  · rw[h]
    simp only[obs,tfd,if_neg (show ¬((1:Int)=0) by omega)]
    by_cases h1:(60:Int)<s.2.2.1.2.2.length
    · left;rw[if_pos h1]
    rw[if_neg h1,l14_small]
    simp only[obs]
    split
    · right;rfl
    · left;rfl
theorem ser_wf {s:Ser} (h:Wf tySeries s):SerW s:=by
  obtain ⟨h1,h2,h3,h4,h5⟩:=h
  refine ⟨h2,?_,trs_wf h4,slo_wf h5⟩
  intro e he
  exact ev_wf (h3.2.2.2 e he)
theorem eq_sl_Equal_Label_l (n:Nat) (a b:List Lab) (hL:a.length≤9223372036854775807):∀(ra rb pa pb:List Lab) (f:Nat) (ix len:Int),a=pa++ra→b=pb++rb→pa.length=pb.length→ra.length=rb.length→ix=pa.length→len=a.length→ra.length<f →
    sl_Equal_Label_l4 n f (a,b,len,ix,())=some (if ra=rb then .inl () else .inr false):=by
  intro ra
  induction ra with
  | nil =>
    intro rb pa pb f ix len ha hb hp hr hi hn hf
    obtain ⟨f,rfl⟩:∃g,f=g+1:=⟨f-1,by simp at hf;omega⟩
    have e:rb=[]:=List.length_eq_zero_iff.1 (by simpa using hr.symm)
    subst e
    rw[sl_Equal_Label_l4_eq,decide_eq_false (idxe ha hi hn),tff,if_pos rfl]
  | cons x ra ih =>
    intro rb pa pb f ix len ha hb hp hr hi hn hf
    obtain ⟨f,rfl⟩:∃g,f=g+1:=⟨f-1,by simp at hf;omega⟩
    cases rb with
    | nil=>simp at hr
    | cons y rb =>
      have hlen:=congrArg List.length ha
      simp at hlen
      rw[sl_Equal_Label_l4_eq,decide_eq_true (idx ha hi hn),tft,at_mid ha hi,at_mid hb (by omega)]
      simp only[obs,labEq]
      rw[w64 (x:=ix+1) (by omega) (by omega)]
      by_cases h:x=y
      · subst h
        simp only[decide_true,Bool.not_true,tff]
        rw[ih rb (pa++[x]) (pb++[x]) f (ix+1) len (idxl ha) (idxl hb) (by simp;omega) (by simpa using hr) (idxs hi) hn (by simp at hf;omega)]
        simp
      · rw[if_neg (by simp[h])]
        simp only[decide_eq_false h,Bool.not_false,tft]
theorem eq_sl_Equal_Label (n:Nat) (a b:List Lab) (hL:a.length≤9223372036854775807):sl_Equal_Label (n+1) a b=some (decide (a=b)):=by
  rw[sl_Equal_Label_eq]
  by_cases h:a.length=b.length
  · rw[decide_eq_true (show ((a.length:Nat):Int)=(b.length:Nat) by omega)]
    simp only[Bool.not_true,tff]
    rw[eq_sl_Equal_Label_l n a b hL a b [] [] loopFuel 0 _ rfl rfl rfl h rfl rfl (by unfold loopFuel;omega)]
    by_cases h':a=b
    · rw[if_pos h',decide_eq_true h'];rfl
    · rw[if_neg h',decide_eq_false h'];rfl
  · rw[decide_eq_false (show ¬((a.length:Nat):Int)=(b.length:Nat) by omega),decide_eq_false (fun k:a=b=>h (by rw[k]))]
    rfl
theorem eq_sl_Equal_Event_l (n:Nat) (a b:List Ev) (hL:a.length≤9223372036854775807):∀(ra rb pa pb:List Ev) (f:Nat) (ix len:Int),a=pa++ra→b=pb++rb→pa.length=pb.length→ra.length=rb.length→ix=pa.length→len=a.length→ra.length<f →
    sl_Equal_Event_l4 n f (a,b,len,ix,())=some (if ra=rb then .inl () else .inr false):=by
  intro ra
  induction ra with
  | nil =>
    intro rb pa pb f ix len ha hb hp hr hi hn hf
    obtain ⟨f,rfl⟩:∃g,f=g+1:=⟨f-1,by simp at hf;omega⟩
    have e:rb=[]:=List.length_eq_zero_iff.1 (by simpa using hr.symm)
    subst e
    rw[sl_Equal_Event_l4_eq,decide_eq_false (idxe ha hi hn),tff,if_pos rfl]
  | cons x ra ih =>
    intro rb pa pb f ix len ha hb hp hr hi hn hf
    obtain ⟨f,rfl⟩:∃g,f=g+1:=⟨f-1,by simp at hf;omega⟩
    cases rb with
    | nil=>simp at hr
    | cons y rb =>
      have hlen:=congrArg List.length ha
      simp at hlen
      rw[sl_Equal_Event_l4_eq,decide_eq_true (idx ha hi hn),tft,at_mid ha hi,at_mid hb (by omega)]
      simp only[obs,evEq]
      rw[w64 (x:=ix+1) (by omega) (by omega)]
      by_cases h:x=y
      · subst h
        simp only[decide_true,Bool.not_true,tff]
        rw[ih rb (pa++[x]) (pb++[x]) f (ix+1) len (idxl ha) (idxl hb) (by simp;omega) (by simpa using hr) (idxs hi) hn (by simp at hf;omega)]
        simp
      · rw[if_neg (by simp[h])]
        simp only[decide_eq_false h,Bool.not_false,tft]
theorem eq_sl_Equal_Event (n:Nat) (a b:List Ev) (hL:a.length≤9223372036854775807):sl_Equal_Event (n+1) a b=some (decide (a=b)):=by
  rw[sl_Equal_Event_eq]
  by_cases h:a.length=b.length
  · rw[decide_eq_true (show ((a.length:Nat):Int)=(b.length:Nat) by omega)]
    simp only[Bool.not_true,tff]
    rw[eq_sl_Equal_Event_l n a b hL a b [] [] loopFuel 0 _ rfl rfl rfl h rfl rfl (by unfold loopFuel;omega)]
    by_cases h':a=b
    · rw[if_pos h',decide_eq_true h'];rfl
    · rw[if_neg h',decide_eq_false h'];rfl
  · rw[decide_eq_false (show ¬((a.length:Nat):Int)=(b.length:Nat) by omega),decide_eq_false (fun k:a=b=>h (by rw[k]))]
    rfl
theorem eq_sl_Equal_Slot_l (n:Nat) (a b:List Slo) (hL:a.length≤9223372036854775807):∀(ra rb pa pb:List Slo) (f:Nat) (ix len:Int),a=pa++ra→b=pb++rb→pa.length=pb.length→ra.length=rb.length→ix=pa.length→len=a.length→ra.length<f →
    sl_Equal_Slot_l4 n f (a,b,len,ix,())=some (if ra=rb then .inl () else .inr false):=by
  intro ra
  induction ra with
  | nil =>
    intro rb pa pb f ix len ha hb hp hr hi hn hf
    obtain ⟨f,rfl⟩:∃g,f=g+1:=⟨f-1,by simp at hf;omega⟩
    have e:rb=[]:=List.length_eq_zero_iff.1 (by simpa using hr.symm)
    subst e
    rw[sl_Equal_Slot_l4_eq,decide_eq_false (idxe ha hi hn),tff,if_pos rfl]
  | cons x ra ih =>
    intro rb pa pb f ix len ha hb hp hr hi hn hf
    obtain ⟨f,rfl⟩:∃g,f=g+1:=⟨f-1,by simp at hf;omega⟩
    cases rb with
    | nil=>simp at hr
    | cons y rb =>
      have hlen:=congrArg List.length ha
      simp at hlen
      rw[sl_Equal_Slot_l4_eq,decide_eq_true (idx ha hi hn),tft,at_mid ha hi,at_mid hb (by omega)]
      simp only[obs,sloEq]
      rw[w64 (x:=ix+1) (by omega) (by omega)]
      by_cases h:x=y
      · subst h
        simp only[decide_true,Bool.not_true,tff]
        rw[ih rb (pa++[x]) (pb++[x]) f (ix+1) len (idxl ha) (idxl hb) (by simp;omega) (by simpa using hr) (idxs hi) hn (by simp at hf;omega)]
        simp
      · rw[if_neg (by simp[h])]
        simp only[decide_eq_false h,Bool.not_false,tft]
theorem eq_sl_Equal_Slot (n:Nat) (a b:List Slo) (hL:a.length≤9223372036854775807):sl_Equal_Slot (n+1) a b=some (decide (a=b)):=by
  rw[sl_Equal_Slot_eq]
  by_cases h:a.length=b.length
  · rw[decide_eq_true (show ((a.length:Nat):Int)=(b.length:Nat) by omega)]
    simp only[Bool.not_true,tff]
    rw[eq_sl_Equal_Slot_l n a b hL a b [] [] loopFuel 0 _ rfl rfl rfl h rfl rfl (by unfold loopFuel;omega)]
    by_cases h':a=b
    · rw[if_pos h',decide_eq_true h'];rfl
    · rw[if_neg h',decide_eq_false h'];rfl
  · rw[decide_eq_false (show ¬((a.length:Nat):Int)=(b.length:Nat) by omega),decide_eq_false (fun k:a=b=>h (by rw[k]))]
    rfl
noncomputable instance decSer (a b:Ser):Decidable (a=b):=Classical.propDecidable _
structure SerM (s:Ser):Prop where
  l:s.1.length≤9223372036854775807
  r:s.2.2.1.2.2.length≤9223372036854775807
  a:s.2.2.2.1.1.length≤9223372036854775807
  b:s.2.2.2.1.2.1.length≤9223372036854775807
  d:s.2.2.2.1.2.2.length≤9223372036854775807
theorem series_same (n:Nat) (a b:Ser) (h:SerM a):series_Same (n+3) a b=some (decide (a=b)):=by
  rw[series_Same_eq,label_Same_eq,raw_Same_eq,eq_sl_Equal_Label n _ _ h.l,eq_sl_Equal_Event n _ _ h.r,eq_sl_Equal_Slot (n+1) _ _ h.a,eq_sl_Equal_Slot (n+1) _ _ h.b,eq_sl_Equal_Slot (n+1) _ _ h.d]
  obtain ⟨a1,a2,⟨r1,r2,r3⟩,⟨t1,t2,t3⟩,a5⟩:=a
  obtain ⟨b1,b2,⟨q1,q2,q3⟩,⟨u1,u2,u3⟩,b5⟩:=b
  simp only[obs,sloEq,tfd]
  by_cases h1:a1=b1
  case neg=>simp[h1]
  by_cases h2:a2=b2
  case neg=>simp[h1,h2]
  by_cases h3:r1=q1
  case neg=>simp[h1,h2,h3]
  by_cases h4:r2=q2
  case neg=>simp[h1,h2,h3,h4]
  by_cases h5:r3=q3
  case neg=>simp[h1,h2,h3,h4,h5]
  by_cases h6:t1=u1
  case neg=>simp[h1,h2,h3,h4,h5,h6]
  by_cases h7:t2=u2
  case neg=>simp[h1,h2,h3,h4,h5,h6,h7]
  by_cases h8:t3=u3
  case neg=>simp[h1,h2,h3,h4,h5,h6,h7,h8]
  by_cases h9:a5=b5
  case neg=>simp[h1,h2,h3,h4,h5,h6,h7,h8,h9]
  simp[h1,h2,h3,h4,h5,h6,h7,h8,h9]
def oldV (now w m:Int):Int×Int:=if OfP now w∧1≤m∧m≤4096 then (if 0<now / w+1-m then now / w+1-m else 0,0) else (0,1)
theorem wi_oldest (n:Nat) (now w m:Int):wi_Oldest (n+4) now w m=some (oldV now w m):=by
  rw[wi_Oldest_eq,wi_of n now w,wi_in_int_eq]
  unfold oldV
  by_cases h:OfP now w
  case neg=>rw[if_neg h,if_neg (fun k=>h k.1)];rfl
  rw[if_pos h]
  have hq:=quo_range h
  simp only[obs,decide_true,Bool.not_true,tff]
  by_cases h1:1≤m
  case neg=>simp[h,h1]
  by_cases h2:m≤4096
  case neg=>simp[h,h1,h2]
  rw[w64 (x:=now / w+1) (by omega) (by omega),w64 (x:=now / w+1-m) (by omega) (by omega)]
  simp[h,h1,h2]
noncomputable def goneV (t now w m:Int):Bool:=decide (OfP t w∧(oldV now w m).2=0∧t / w<(oldV now w m).1)
theorem wi_gone (n:Nat) (t now w m:Int):wi_Gone (n+5) t now w m=some (goneV t now w m):=by
  rw[wi_Gone_eq,wi_of (n+1) t w,wi_oldest n now w m]
  unfold goneV
  simp only[obs,tfd]
  by_cases h:OfP t w
  case neg=>rw[if_neg h,if_neg (by simp),decide_eq_false (fun k=>h k.1)]
  rw[if_pos h,if_pos rfl]
  by_cases h1:(oldV now w m).2=0
  · rw[if_pos h1];exact congrArg some (decide_eq_decide.2 ⟨fun k=>⟨h,h1,k⟩,fun k=>k.2.2⟩)
  · rw[if_neg h1,decide_eq_false (fun k=>h1 k.2.1)]
noncomputable def deadV (c:Conf) (last now:Int):Bool :=
  decide (OkC c)&&(goneV last now c.2.1.1 c.2.2.1.1&&(goneV last now c.2.1.2.1 c.2.2.1.2.1&&goneV last now c.2.1.2.2 c.2.2.1.2.2))
theorem series_dead (n:Nat) (c:Conf) (last now:Int):series_Dead (n+6) c last now=some (deadV c last now):=by
  rw[series_Dead_eq,conf_check (n+2) c,wi_gone n,wi_gone n,wi_gone n]
  unfold deadV
  by_cases h:OkC c
  case neg=>rw[if_neg h,decide_eq_false h];rfl
  rw[if_pos h,decide_eq_true h]
  simp only[obs,decide_true,tft,Bool.true_and]
  cases goneV last now c.2.1.1 c.2.2.1.1<;>cases goneV last now c.2.1.2.1 c.2.2.1.2.1<;>cases goneV last now c.2.1.2.2 c.2.2.1.2.2<;>rfl
abbrev Sta:=Conf×(Int×(Int×List Ser))
structure StaW (s:Sta):Prop where
  len:s.2.2.2.length≤9223372036854775807
  ser:∀x∈s.2.2.2,SerW x∧SerM x
def Whole (s:Sta):Prop:=OkC s.1∧(s.2.2.2.length:Int)=s.1.2.2.2.1
noncomputable instance (s):Decidable (Whole s):=Classical.propDecidable _
def LvX (s:Sta) (x:Ser):Prop:=x≠ser0∧(s.2.2.1 = -1∨deadV s.1 x.2.1 s.2.2.1=false)
noncomputable instance (s x):Decidable (LvX s x):=Classical.propDecidable _
def TimeP (t:Int):Prop:=0≤t∧t<35184372088832
instance (t):Decidable (TimeP t):=by unfold TimeP;infer_instance
def Clock (s:Sta):Prop:=TimeP s.2.1∧(s.2.2.1 = -1∨TimeP s.2.2.1)∧s.2.2.1≤s.2.1
instance (s):Decidable (Clock s):=by unfold Clock;infer_instance
def mk (s:Sta):Int:=s.2.1 / s.1.2.1.1*s.1.2.1.1
def Twin (s:Sta) (i:Nat) (x:Ser):Prop:=LvX s x∧∃k,k<i∧∃y,s.2.2.2[k]? = some y∧LvX s y∧y.1=x.1
noncomputable instance (s i x):Decidable (Twin s i x):=Classical.propDecidable _
def RightX (s:Sta) (i:Nat) (x:Ser):Prop:=x=ser0∨(SerOk s.1 x∧0≤x.2.1∧x.2.1<mk s+s.1.2.1.1∧¬Twin s i x)
noncomputable instance (s i x):Decidable (RightX s i x):=Classical.propDecidable _
structure StaOk (s:Sta):Prop where
  whole:Whole s
  clock:Clock s
  right:∀(i:Nat) x,s.2.2.2[i]? = some x→RightX s i x
noncomputable instance (s):Decidable (StaOk s):=Classical.propDecidable _
theorem Whole.len {s:Sta} (h:Whole s):s.2.2.2.length≤65536:=by
  have:=h.1.rng.cap;have:=h.2;omega
theorem at_el {α:Type} {l:List α} {i:Nat} {x:α} (h:l[i]? = some x):at? l (i:Int)=some x:=by
  unfold at?
  rw[decide_eq_true (show (0:Int)≤(i:Int) by omega),Int.toNat_natCast]
  exact h
theorem StaW.at {s:Sta} (h:StaW s) {i:Nat} {x:Ser} (hx:s.2.2.2[i]? = some x):SerW x∧SerM x:=h.ser x (List.mem_of_getElem? hx)
theorem st_empty (n:Nat) {x:Ser} (h:SerM x):stt_empty (n+4) x=some (decide (x=ser0)):=by
  have:=series_same n x ser0 h
  rw[stt_empty_eq]
  have e:series_Same (n+3) x ([],((0:Int),(((0:Int),((0:Int),[])),(([],([],[])),((0:Int),z0)))))=some (decide (x=ser0)):=this
  change obind (series_Same (n+3) x ([],((0:Int),(((0:Int),((0:Int),[])),(([],([],[])),((0:Int),z0)))))) _=_
  rw[e];rfl
theorem st_lives (n:Nat) {s:Sta} {i:Nat} {x:Ser} (hx:s.2.2.2[i]? = some x) (hm:SerM x):stt_view_lives (n+7) s (i:Int)=some (decide (LvX s x)):=by
  rw[stt_view_lives_eq,at_el hx,obs,st_empty (n+2) hm,obs,tfn,tfd,series_dead n]
  by_cases h:x=ser0
  · rw[if_pos h,decide_eq_false (fun k:LvX s x=>k.1 h)]
  rw[if_neg h,tfd]
  by_cases h1:s.2.2.1 = -1
  · rw[if_pos h1,decide_eq_true (show LvX s x from ⟨h,.inl h1⟩)]
  · rw[if_neg h1]
    cases hd:deadV s.1 x.2.1 s.2.2.1
    · rw[decide_eq_true (show LvX s x from ⟨h,.inr hd⟩)];rfl
    · rw[decide_eq_false (fun k:LvX s x=>by rcases k.2 with k | k;exact h1 k;rw[hd] at k;cases k)];rfl
theorem place_l (n:Nat) (is:(Int×Unit)→Option Bool) (p:Nat→Bool) (L:Nat) (hL:L≤1000000) (his:∀k:Nat,k<L→is ((k:Int),())=some (p k)):∀(d k f:Nat),k+d=L→d<f →
    (∃m:Nat,k≤m∧m<L∧p m=true∧(∀j,k≤j→j<m→p j=false)∧stt_view_place_l2 n f (is,(L:Int),(k:Int),())=some (.inr (m:Int))) ∨
    ((∀j,k≤j→j<L→p j=false)∧stt_view_place_l2 n f (is,(L:Int),(k:Int),())=some (.inl ())):=by
  intro d
  induction d with
  | zero =>
    intro k f hk hf
    obtain ⟨f,rfl⟩:∃g,f=g+1:=⟨f-1,by omega⟩
    refine .inr ⟨fun j h1 h2=>by omega,?_⟩
    rw[stt_view_place_l2_eq,decide_eq_false (by omega),tff]
  | succ d ih =>
    intro k f hk hf
    obtain ⟨f,rfl⟩:∃g,f=g+1:=⟨f-1,by omega⟩
    rw[stt_view_place_l2_eq,decide_eq_true (by omega),tft,his k (by omega),obs]
    cases hp:p k
    · rw[tff,w64 (by omega) (by omega),show ((k:Int)+1)=((k+1:Nat):Int) by omega]
      rcases ih (k+1) f (by omega) (by omega) with ⟨m,h1,h2,h3,h4,h5⟩ | ⟨h1,h2⟩
      · exact .inl ⟨m,by omega,h2,h3,fun j q1 q2=>by
          rcases Nat.lt_or_ge k j with q | q
          · exact h4 j (by omega) q2
          · rw[show j=k by omega];exact hp,h5⟩
      · exact .inr ⟨fun j q1 q2=>by
          rcases Nat.lt_or_ge k j with q | q
          · exact h1 j (by omega) q2
          · rw[show j=k by omega];exact hp,h2⟩
    · rw[tft]
      exact .inl ⟨k,Nat.le_refl _,by omega,hp,fun j q1 q2=>by omega,rfl⟩
theorem first_val (n:Nat) (s:Sta) (is:(Int×Unit)→Option Bool) (p:Nat→Bool) (hL:s.2.2.2.length≤1000000) (his:∀k:Nat,k<s.2.2.2.length→is ((k:Int),())=some (p k)) :
    (∃m:Nat,m<s.2.2.2.length∧p m=true∧(∀j,j<m→p j=false)∧stt_view_place (n+1) s is=some (m:Int)) ∨
    ((∀j,j<s.2.2.2.length→p j=false)∧stt_view_place (n+1) s is=some (-1)):=by
  rw[stt_view_place_eq]
  rcases place_l n is p _ hL his s.2.2.2.length 0 loopFuel (by omega) (by unfold loopFuel;omega) with ⟨m,h1,h2,h3,h4,h5⟩ | ⟨h1,h2⟩
  · refine .inl ⟨m,h2,h3,fun j q=>h4 j (by omega) q,?_⟩
    have h5':stt_view_place_l2 n loopFuel (is,(s.2.2.2.length:Int),(0:Int),())=some (.inr (m:Int)):=h5
    rw[h5'];rfl
  · refine .inr ⟨fun j q=>h1 j (by omega) q,?_⟩
    have h2':stt_view_place_l2 n loopFuel (is,(s.2.2.2.length:Int),(0:Int),())=some (.inl ()):=h2
    rw[h2'];rfl
theorem label_same (n:Nat) (a b:List Lab) (h:a.length≤9223372036854775807):label_Same (n+2) a b=some (decide (a=b)):=by
  rw[label_Same_eq,eq_sl_Equal_Label n a b h];rfl
def IsTw (s:Sta) (i k:Nat) (x:Ser):Prop:=k=i∨∃y,s.2.2.2[k]? = some y∧LvX s y∧y.1=x.1
noncomputable instance (s i k x):Decidable (IsTw s i k x):=Classical.propDecidable _
theorem st_twin (n:Nat) {s:Sta} (hw:StaW s) (hL:s.2.2.2.length≤1000000) {i:Nat} {x:Ser} (hx:s.2.2.2[i]? = some x):stt_view_twin (n+9) s (i:Int)=some (decide (Twin s i x)):=by
  have hil:i<s.2.2.2.length:=(List.getElem?_eq_some_iff.1 hx).1
  have hm:=(hw.at hx).2
  rw[stt_view_twin_eq]
  have his:∀k:Nat,k<s.2.2.2.length→(fun y0:Int×Unit=>stt_view_twin_1 (n+8) y0.1 (i:Int) s) ((k:Int),())=some (decide (IsTw s i k x)):=by
    intro k hk
    have hy:s.2.2.2[k]? = some s.2.2.2[k]:=List.getElem?_eq_getElem hk
    generalize s.2.2.2[k]=y at hy
    have hmy:=(hw.at hy).2
    show stt_view_twin_1 (n+8) (k:Int) (i:Int) s=_
    rw[stt_view_twin_1_eq,tfd,st_lives n hy hmy,obs,at_el hy,obs,at_el hx,obs,label_same (n+5) _ _ hmy.l,obs,tfd]
    by_cases h1:k=i
    · rw[if_pos (by rw[h1]),decide_eq_true (show IsTw s i k x from .inl h1)]
    rw[if_neg (by omega)]
    by_cases h2:LvX s y
    · rw[if_pos h2]
      refine congrArg some (decide_eq_decide.2 ⟨fun h3 => .inr ⟨y,hy,h2,h3⟩,fun h3 => ?_⟩)
      rcases h3 with h3 | ⟨z,z1,z2,z3⟩
      · exact absurd h3 h1
      · rw[hy] at z1;cases z1;exact z3
    · rw[if_neg h2,decide_eq_false]
      rintro (h3 | ⟨z,z1,z2,z3⟩)
      · exact h1 h3
      · rw[hy] at z1;cases z1;exact h2 z2
  rcases first_val (n+7) s (fun y0:Int×Unit=>stt_view_twin_1 (n+8) y0.1 (i:Int) s) (fun k=>decide (IsTw s i k x)) hL his with ⟨m,h1,h2,h3,h4⟩ | ⟨h1,h2⟩
  · rw[h4,obs,tfd,st_lives (n+1) hx hm]
    have h2:=of_decide_eq_true h2
    have hmi:m≤i:=by
      rcases Nat.lt_or_ge i m with q | q
      · have:=of_decide_eq_false (h3 i q);exact absurd (.inl rfl) this
      · exact q
    by_cases q:m<i
    · rw[if_pos (by omega),obs]
      refine congrArg some (decide_eq_decide.2 ⟨fun k=>⟨k,m,q,?_⟩,fun k=>k.1⟩)
      exact h2.resolve_left (by omega)
    · rw[if_neg (by omega),decide_eq_false]
      rintro ⟨k1,k,k2,k3⟩
      exact of_decide_eq_false (h3 k (by omega)) (.inr k3)
  · exact absurd (.inl rfl) (of_decide_eq_false (h1 i hil))
theorem mk_range {s:Sta} (h:TimeP s.2.1) (hw:1≤s.1.2.1.1∧s.1.2.1.1≤1099511627776):0≤mk s∧mk s≤s.2.1∧s.2.1<mk s+s.1.2.1.1∧s.2.1-s.2.1 % s.1.2.1.1=mk s:=by
  have e:=Int.mul_ediv_add_emod s.2.1 s.1.2.1.1
  have e1:=Int.emod_nonneg s.2.1 (show s.1.2.1.1≠0 by omega)
  have e2:=Int.emod_lt_of_pos s.2.1 (show 0<s.1.2.1.1 by omega)
  rw[Int.mul_comm] at e
  have e3:0≤mk s:=Int.mul_nonneg (Int.ediv_nonneg h.1 (by omega)) (by omega)
  unfold mk at *
  exact ⟨e3,by omega,by omega,by omega⟩
theorem st_mark (n:Nat) {s:Sta} (h:TimeP s.2.1) (hw:1≤s.1.2.1.1∧s.1.2.1.1≤1099511627776):stt_view_mark (n+1) s=some (mk s):=by
  have:=mk_range h hw
  have:=h.1;have:=h.2
  rw[stt_view_mark_eq,tfd,if_neg (by omega),tmod_nn h.1,w64 (by omega) (by omega),(mk_range h hw).2.2.2]
theorem st_right (n:Nat) {s:Sta} (hw:StaW s) (hh:Whole s) (ht:TimeP s.2.1) {i:Nat} {x:Ser} (hx:s.2.2.2[i]? = some x):stt_view_right (n+12) s (i:Int)=some (decide (RightX s i x)):=by
  have hm:=hw.at hx
  have hr:=hh.1.rng
  have hL:=hh.len
  have hmk:=mk_range ht hr.w0
  have ht1:=ht.1;have ht2:=ht.2;have hw0:=hr.w0
  obtain ⟨m1,m2,m3,m4⟩:=hmk
  rw[stt_view_right_eq,at_el hx,obs,st_empty (n+7) hm.2,obs,tfd,series_check n s.1 hm.1,obs,st_mark (n+10) ht hr.w0,obs,w64 (by omega) (by omega),st_twin (n+2) hw (by omega) hx,obs]
  simp only[tfd]
  by_cases h0:x=ser0
  · rw[if_pos h0,decide_eq_true (show RightX s i x from .inl h0)]
  rw[if_neg h0]
  by_cases h1:SerOk s.1 x
  case neg=>rw[if_neg h1,if_neg (by decide),decide_eq_false (fun q:RightX s i x=>by rcases q with k | k;exact h0 k;exact h1 k.1)]
  rw[if_pos h1,if_pos rfl]
  by_cases h2:0≤x.2.1
  case neg=>rw[if_neg h2,decide_eq_false (fun q:RightX s i x=>by rcases q with k | k;exact h0 k;exact h2 k.2.1)]
  rw[if_pos h2]
  by_cases h3:x.2.1<mk s+s.1.2.1.1
  case neg=>rw[if_neg h3,decide_eq_false (fun q:RightX s i x=>by rcases q with k | k;exact h0 k;exact h3 k.2.2.1)]
  rw[if_pos h3]
  by_cases h4:Twin s i x
  · rw[decide_eq_true h4,decide_eq_false (fun q:RightX s i x=>by rcases q with k | k;exact h0 k;exact k.2.2.2 h4)];rfl
  · rw[decide_eq_false h4,decide_eq_true (show RightX s i x from .inr ⟨h1,h2,h3,h4⟩)];rfl
def sta0:Sta:=(((0:Int),(((0:Int),((0:Int),(0:Int))),(((0:Int),((0:Int),(0:Int))),((0:Int),(0:Int))))),((0:Int),((0:Int),[])))
theorem st_open (n:Nat) (s:Sta):stt_open (n+4) s=some (if Whole s then (s,0) else (sta0,2)):=by
  rw[stt_open_eq,conf_check n s.1,obs,tfn,tfd,tfn,tfd]
  by_cases h:OkC s.1
  case neg=>rw[if_neg h,if_neg (show ¬((2:Int)=0) by decide),if_neg (fun k:Whole s=>h k.1)];rfl
  rw[if_pos h,if_pos rfl]
  by_cases h1:(s.2.2.2.length:Int)=s.1.2.2.2.1
  · rw[if_pos h1,if_pos (show Whole s from ⟨h,h1⟩)]
  · rw[if_neg h1,if_neg (fun k:Whole s=>h1 k.2)];rfl
theorem st_time (n:Nat) (t:Int):stt_time (n+1) t=some (decide (TimeP t)):=by
  rw[stt_time_eq,tfd]
  by_cases h:0≤t
  · rw[if_pos h];exact congrArg some (decide_eq_decide.2 ⟨fun k=>⟨h,k⟩,fun k=>k.2⟩)
  · rw[if_neg h,decide_eq_false (fun k:TimeP t=>h k.1)]
theorem st_clock (n:Nat) (s:Sta):stt_view_clock (n+2) s=some (decide (Clock s)):=by
  rw[stt_view_clock_eq,st_time n,st_time n,obs,obs]
  simp only[tfd]
  by_cases h:TimeP s.2.1
  case neg=>rw[if_neg h,decide_eq_false (fun k:Clock s=>h k.1)]
  rw[if_pos h]
  by_cases h1:s.2.2.1 = -1
  · rw[if_pos h1];exact congrArg some (decide_eq_decide.2 ⟨fun k=>⟨h,.inl h1,k⟩,fun k=>k.2.2⟩)
  rw[if_neg h1]
  by_cases h2:TimeP s.2.2.1
  · rw[if_pos h2];exact congrArg some (decide_eq_decide.2 ⟨fun k=>⟨h,.inr h2,k⟩,fun k=>k.2.2⟩)
  · rw[if_neg h2,decide_eq_false (fun k:Clock s=>by rcases k.2.1 with q | q;exact h1 q;exact h2 q)]
def Wrong (s:Sta) (k:Nat):Prop:=∃x,s.2.2.2[k]? = some x∧¬RightX s k x
noncomputable instance (s k):Decidable (Wrong s k):=Classical.propDecidable _
theorem stt_check (n:Nat) {s:Sta} (hw:StaW s):stt_Check (n+14) s=some (if StaOk s then 0 else 2):=by
  rw[stt_Check_eq,st_open (n+9) s,obs,tfn,tfd]
  by_cases h:Whole s
  case neg=>rw[if_neg h,if_neg (show ¬((sta0,(2:Int)).2=0) by decide),if_neg (fun k:StaOk s=>h k.whole)]
  rw[if_pos h,if_pos rfl,st_clock (n+11) s,obs,tfn,tfd]
  by_cases h1:Clock s
  case neg=>rw[if_neg h1,if_neg (fun k:StaOk s=>h1 k.clock)]
  rw[if_pos h1]
  have hL:=h.len
  have his:∀k:Nat,k<s.2.2.2.length→(fun y2:Int×Unit=>stt_Check_1 (n+13) y2.1 s) ((k:Int),())=some (decide (Wrong s k)):=by
    intro k hk
    have hy:s.2.2.2[k]? = some s.2.2.2[k]:=List.getElem?_eq_getElem hk
    generalize s.2.2.2[k]=y at hy
    show stt_Check_1 (n+13) (k:Int) s=_
    rw[stt_Check_1_eq,st_right n hw h h1.1 hy,obs]
    by_cases q:RightX s k y
    · rw[decide_eq_true q,decide_eq_false (fun z:Wrong s k=>by obtain ⟨x,x1,x2⟩:=z;rw[hy] at x1;cases x1;exact x2 q)];rfl
    · rw[decide_eq_false q,decide_eq_true (show Wrong s k from ⟨y,hy,q⟩)];rfl
  rcases first_val (n+12) s (fun y2:Int×Unit=>stt_Check_1 (n+13) y2.1 s) (fun k=>decide (Wrong s k)) (by omega) his with ⟨m,q1,q2,q3,q4⟩ | ⟨q1,q2⟩
  · rw[show (fun y2:Int×Unit=>stt_Check_1 (n+13) y2.1 (s,(0:Int)).1)=fun y2:Int×Unit=>stt_Check_1 (n+13) y2.1 s from rfl]
    obtain ⟨x,x1,x2⟩:=of_decide_eq_true q2
    rw[q4,obs,tfd,if_pos (by omega),if_neg (fun k:StaOk s=>x2 (k.right m x x1))]
  · rw[show (fun y2:Int×Unit=>stt_Check_1 (n+13) y2.1 (s,(0:Int)).1)=fun y2:Int×Unit=>stt_Check_1 (n+13) y2.1 s from rfl]
    rw[q2,obs,tfd,if_neg (by decide),if_pos]
    refine ⟨h,h1,fun i x hx => ?_⟩
    have:=of_decide_eq_false (q1 i (List.getElem?_eq_some_iff.1 hx).1)
    exact Decidable.byContradiction fun k=>this ⟨x,hx,k⟩
theorem small17_l4 (n:Nat) (l:List Ser) (hL:l.length≤1000000) (hm:∀x∈l,SerM x):∀(rest pre:List Ser) (f:Nat) (ix len:Int),l=pre++rest→ix=pre.length→len=l.length→rest.length<f →
    l17_Small_l4 (n+2) f (l,len,ix,())=some (.inl ())∨l17_Small_l4 (n+2) f (l,len,ix,())=some (.inr 0):=by
  intro rest
  induction rest with
  | nil =>
    intro pre f ix len hl hi hn hf
    obtain ⟨f,rfl⟩:∃g,f=g+1:=⟨f-1,by simp at hf;omega⟩
    left
    rw[l17_Small_l4_eq]
    simp only[tfd,if_neg (idxe hl hi hn)]
  | cons x rest ih =>
    intro pre f ix len hl hi hn hf
    obtain ⟨f,rfl⟩:∃g,f=g+1:=⟨f-1,by simp at hf;omega⟩
    have hx:SerM x:=hm x (by rw[hl];simp)
    rw[l17_Small_l4_eq]
    simp only[tfd,if_pos (idx hl hi hn),at_mid hl hi,obs,idxw hl hi (show l.length≤1000000000000 by omega)]
    rcases l15_small n x hx.l with h | h
    · rw[h];right;rfl
    · rw[h]
      simp only[obs,if_neg (show ¬((1:Int)=0) by decide)]
      exact ih (pre++[x]) f (ix+1) len (idxl hl) (idxs hi) hn (by simp at hf;omega)
theorem l17_small (n:Nat) {s:Sta} (hw:StaW s):l17_Small (n+3) s=some 0∨(l17_Small (n+3) s=some 1∧s.2.2.2.length≤8):=by
  rw[l17_Small_eq]
  simp only[tfd]
  by_cases h:(8:Int)<(s.2.2.2.length:Int)
  · rw[if_pos h];exact .inl rfl
  · rw[if_neg h]
    rcases small17_l4 n s.2.2.2 (by omega) (fun x hx=>(hw.ser x hx).2) s.2.2.2 [] loopFuel 0 _ rfl rfl rfl (by unfold loopFuel;omega) with h1 | h1
    · rw[h1];exact .inr ⟨rfl,by omega⟩
    · rw[h1];exact .inl rfl
theorem ser_m' {s:Ser} (h:Wf tySeries s):SerM s:=by
  obtain ⟨h1,h2,h3,⟨h4,h5,h6⟩,h7⟩:=h
  have e1:=h1.1;have e3:=h3.2.2.1;have e4:=h4.1;have e5:=h5.1;have e6:=h6.1
  simp only[maxLen] at e1 e3 e4 e5 e6
  exact ⟨e1,e3,e4,e5,e6⟩
theorem sta_wf {s:Sta} (h:Wf tyState s):StaW s:=by
  obtain ⟨h1,h2,h3,h4⟩:=h
  have e:=h4.1
  simp only[maxLen] at e
  exact ⟨e,fun x hx=>⟨ser_wf (h4.2 x hx),ser_m' (h4.2 x hx)⟩⟩
end Go.Proofs.YtefpnjjbopdplaaGreatDoor
namespace Go.Proofs.YtefpnjjbopdplaaGreatDoor
open Go.Flat Go.Plim
set_option linter.unusedVariables false
def OpenInv (c:Conf) (s:Trs) (o:Slo) (l:List Ev):Prop :=
  (l=[]∧o=s0∧∀t,FInv c s [] t)∨∃t,EndsAt l t∧FInv c s l t∧o=(t / c.2.1.1,cellOf (win c.2.1.1 l (t / c.2.1.1)))
theorem OpenInv.fold {c:Conf} {s:Trs} {o:Slo} {l:List Ev} (h:OpenInv c s o l):FoldOk c s:=by
  rcases h with ⟨_,_,h⟩ | ⟨t,_,h,_⟩
  · exact (h 0).ok
  · exact h.ok
end Go.Proofs.YtefpnjjbopdplaaGreatDoor
namespace Go.Proofs.YtefpnjjbopdplaaGreatDoor
open Go.Flat Go.Plim
set_option linter.unusedVariables false
set_option linter.unusedSimpArgs false
def rawOf (room:Int) (l:List Ev):Rw :=
  (if (l.length:Int)≤room then 0 else (l.length:Int)-room,(if (l.length:Int)≤room then 0 else ((l[l.length-room.toNat-1]?).getD e0).1,l.drop (l.length-room.toNat)))
structure SerInv (c:Conf) (s:Ser) (l:List Ev):Prop where
  lab:LabOk s.1
  len:l.length≤1000000
  raw:s.2.2.1=rawOf c.1 l
  opn:OpenInv c s.2.2.2.1 s.2.2.2.2 l
  last:(l=[]∧s.2.1 = -1)∨EndsAt l s.2.1
theorem SerInv.foll {c:Conf} {s:Ser} {l:List Ev} (h:SerInv c s l):Foll l:=by
  rcases h.last with ⟨rfl,_⟩ | h
  · exact Foll.nil
  · exact h.foll
theorem ends_getLast {l:List Ev} {t:Int} (h:EndsAt l t):∃e,l.getLast? = some e∧e.1=t:=by
  obtain ⟨x,hx,hxt⟩:=h.last
  rcases List.eq_nil_or_concat l with rfl | ⟨p,y,rfl⟩
  · cases hx
  rw[List.concat_eq_append] at *
  have h1:=h.le y (by simp)
  refine ⟨y,by simp,?_⟩
  rcases List.mem_append.1 hx with q | q
  · have:=(foll_append.1 h.foll).2.2 x q y (by simp);omega
  · simp at q;rw[←q];exact hxt
theorem ends_uniq {l:List Ev} {t u:Int} (h:EndsAt l t) (k:EndsAt l u):t=u:=by
  obtain ⟨e,h1,h2⟩:=ends_getLast h
  obtain ⟨e',k1,k2⟩:=ends_getLast k
  rw[h1] at k1;simp at k1;rw[←h2,←k2,k1]
theorem SerInv.at_ {c:Conf} {s:Ser} {l:List Ev} (h:SerInv c s l) (hl:l≠[]):EndsAt l s.2.1∧FInv c s.2.2.2.1 l s.2.1∧s.2.2.2.2=(s.2.1 / c.2.1.1,cellOf (win c.2.1.1 l (s.2.1 / c.2.1.1))):=by
  have he:=h.last.resolve_left fun k=>hl k.1
  rcases h.opn with k | ⟨t,k1,k2,k3⟩
  · exact absurd k.1 hl
  · have:=ends_uniq he k1
    subst this
    exact ⟨he,k2,k3⟩
theorem factor_pos {a b:Int} (ha:1≤a) (hb:1≤b) (hm:b % a=0):0<b / a:=by
  rcases Int.lt_or_le 0 (b / a) with z | z
  · exact z
  · exfalso
    have e:a*(b / a)=b:=by have:=Int.mul_ediv_add_emod b a;omega
    have:a*(b / a)≤a*0:=Int.mul_le_mul_of_nonneg_left z (by omega)
    omega
noncomputable def findV (s:Sta) (l:List Lab):Option Nat:=s.2.2.2.findIdx? fun x=>decide (x.1=l∧LvX s x)
noncomputable def roomV (s:Sta):Option Nat:=s.2.2.2.findIdx? fun x=>decide (¬LvX s x)
theorem findV_some {s:Sta} {l:List Lab} {i:Nat}:findV s l=some i↔∃x,s.2.2.2[i]? = some x∧x.1=l∧LvX s x∧∀j,j<i→∀y,s.2.2.2[j]? = some y→¬(y.1=l∧LvX s y):=by
  unfold findV
  rw[List.findIdx?_eq_some_iff_getElem]
  constructor
  · rintro ⟨h,h1,h2⟩
    have h1:=of_decide_eq_true h1
    refine ⟨_,List.getElem?_eq_getElem h,h1.1,h1.2,fun j hj y hy => ?_⟩
    obtain ⟨hjl,e⟩:=List.getElem?_eq_some_iff.1 hy
    have:=h2 j hj
    rw[e] at this
    simpa using this
  · rintro ⟨x,hx,h1,h2,h3⟩
    obtain ⟨hl,e⟩:=List.getElem?_eq_some_iff.1 hx
    refine ⟨hl,by rw[e];exact decide_eq_true ⟨h1,h2⟩,fun j hj => ?_⟩
    have:=h3 j hj _ (List.getElem?_eq_getElem (by omega))
    simpa using this
theorem findV_none {s:Sta} {l:List Lab}:findV s l=none↔∀x∈s.2.2.2,¬(x.1=l∧LvX s x):=by
  unfold findV
  rw[List.findIdx?_eq_none_iff]
  simp
end Go.Proofs.YtefpnjjbopdplaaGreatDoor
namespace Go.Proofs.YtefpnjjbopdplaaGreatDoor
open Go.Flat
def rd (st:List UInt8×Bool) (k:Nat):Int×(List UInt8×Bool):=if st.2=true∨st.1.length<k then (0,([],true)) else (valI (bytesI (st.1.take k)),(st.1.drop k,false))
def q0 (s:List UInt8):=rd (s,false) 4
def q1 (s:List UInt8):=rd (q0 s).2 8
def q2 (s:List UInt8):=rd (q1 s).2 8
def q3 (s:List UInt8):=rd (q2 s).2 8
def q4 (s:List UInt8):=rd (q3 s).2 4
def q5 (s:List UInt8):=rd (q4 s).2 4
def q6 (s:List UInt8):=rd (q5 s).2 4
def q7 (s:List UInt8):=rd (q6 s).2 4
def q8 (s:List UInt8):=rd (q7 s).2 4
def q9 (s:List UInt8):=rd (q8 s).2 8
structure Full (s:List UInt8):Prop where
  z:(q9 s).1=0
  good:(q9 s).2.2=false
  left:(q9 s).2.1=[]
def idxC (c:Conf):Int:=prt c.2.2.2.2 120
def hom (c:Conf):Int:=1+idxC c+c.2.2.2.2
end Go.Proofs.YtefpnjjbopdplaaGreatDoor
namespace Go.Proofs.YtefpnjjbopdplaaGreatDoor
open Go.Flat Go.Plim
set_option linter.unusedVariables false
set_option linter.unusedSimpArgs false
theorem el_get {l:List Ser} {k:Nat} (h:k<l.length):∃y,l[k]? = some y:=⟨l[k],List.getElem?_eq_getElem h⟩
noncomputable def findR (s:Sta) (l:List Lab):Int×Int:=if Whole s then (match findV s l with | some i=>((i:Int),0) | none=>(0,3)) else (0,2)
def IsF (s:Sta) (l:List Lab) (k:Nat):Prop:=∃y,s.2.2.2[k]? = some y∧y.1=l∧LvX s y
noncomputable instance (s l k):Decidable (IsF s l k):=Classical.propDecidable _
theorem find_first {s:Sta} {l:List Lab} {m:Nat} (h:IsF s l m) (hn:∀j,j<m→¬IsF s l j):findV s l=some m:=by
  obtain ⟨y,h1,h2,h3⟩:=h
  exact findV_some.2 ⟨y,h1,h2,h3,fun j hj z hz k=>hn j hj ⟨z,hz,k.1,k.2⟩⟩
theorem find_no {s:Sta} {l:List Lab} (hn:∀j,j<s.2.2.2.length→¬IsF s l j):findV s l=none:=by
  refine findV_none.2 fun x hx k => ?_
  obtain ⟨i,hi,e⟩:=List.getElem_of_mem hx
  exact hn i hi ⟨x,by rw[List.getElem?_eq_getElem hi,e],k.1,k.2⟩
theorem stt_find (n:Nat) {s:Sta} (hw:StaW s) (l:List Lab):stt_Find (n+10) s l=some (findR s l):=by
  rw[stt_Find_eq,st_open (n+5) s,obs,tfn,tfd]
  unfold findR
  by_cases h:Whole s
  case neg=>rw[if_neg h,if_neg h,if_neg (show ¬((sta0,(2:Int)).2=0) by decide)]
  rw[if_pos h,if_pos h,if_pos rfl]
  have his:∀k:Nat,k<s.2.2.2.length→(fun y1:Int×Unit=>stt_Find_1 (n+9) y1.1 s l s) ((k:Int),())=some (decide (IsF s l k)):=by
    intro k hk
    obtain ⟨y,hy⟩:=el_get hk
    have hm:=(hw.at hy).2
    show stt_Find_1 (n+9) (k:Int) s l s=_
    rw[stt_Find_1_eq,at_el hy,obs,label_same (n+6) _ _ hm.l,obs,tfd,st_lives (n+1) hy hm,obs]
    by_cases h1:y.1=l
    · rw[if_pos h1]
      refine congrArg some (decide_eq_decide.2 ⟨fun k=>⟨y,hy,h1,k⟩,fun ⟨z,z1,z2,z3⟩ => ?_⟩)
      rw[hy] at z1;cases z1;exact z3
    · rw[if_neg h1,decide_eq_false (fun q:IsF s l k=>by obtain ⟨z,z1,z2,z3⟩:=q;rw[hy] at z1;cases z1;exact h1 z2)]
  rcases first_val (n+8) s (fun y1:Int×Unit=>stt_Find_1 (n+9) y1.1 s l s) (fun k=>decide (IsF s l k)) (by have:=h.len;omega) his with ⟨m,q1,q2,q3,q4⟩ | ⟨q1,q2⟩
  · rw[show (fun y1:Int×Unit=>stt_Find_1 (n+9) y1.1 s l (s,(0:Int)).1)=fun y1:Int×Unit=>stt_Find_1 (n+9) y1.1 s l s from rfl,q4,obs,tfd,if_neg (by omega),find_first (of_decide_eq_true q2) (fun j hj=>of_decide_eq_false (q3 j hj))]
  · rw[show (fun y1:Int×Unit=>stt_Find_1 (n+9) y1.1 s l (s,(0:Int)).1)=fun y1:Int×Unit=>stt_Find_1 (n+9) y1.1 s l s from rfl,q2,obs,tfd,if_pos (by decide),find_no (fun j hj=>of_decide_eq_false (q1 j hj))]
theorem r06_same_l4 (n:Nat) (a:List Int) (hL:a.length≤1000000):∀(rest pre:List Int) (f:Nat) (ix len:Int),a=pre++rest→ix=pre.length→len=a.length→rest.length<f→r06_Same_l4 n f (a,a,len,ix,())=some (.inl ()):=by
  intro rest
  induction rest with
  | nil =>
    intro pre f ix len hl hi hn hf
    obtain ⟨f,rfl⟩:∃g,f=g+1:=⟨f-1,by simp at hf;omega⟩
    rw[r06_Same_l4_eq]
    simp only[tfd,if_neg (idxe hl hi hn)]
  | cons x rest ih =>
    intro pre f ix len hl hi hn hf
    obtain ⟨f,rfl⟩:∃g,f=g+1:=⟨f-1,by simp at hf;omega⟩
    rw[r06_Same_l4_eq]
    simp only[tfd,if_pos (idx hl hi hn),at_mid hl hi,obs,decide_true,Bool.not_true,tff,idxw hl hi (show a.length≤1000000000000 by omega)]
    exact ih (pre++[x]) f (ix+1) len (idxl hl) (idxs hi) hn (by simp at hf;omega)
theorem r06_same_refl (n:Nat) (a:List Int) (hL:a.length≤1000000):r06_Same (n+1) a a=some true:=by
  rw[r06_Same_eq]
  simp only[decide_true,Bool.not_true,tff,r06_same_l4 n a hL a [] loopFuel 0 _ rfl rfl rfl (by unfold loopFuel;omega),obs,selim_inl]
structure Goes (s:Sta) (l:List Lab) (e:Ev):Prop where
  st:StaOk s
  lab:LabOk l
  ev:EvOk e
  lo:mk s≤e.1
  hi:e.1<mk s+s.1.2.1.1
inductive PlaceAt (s:Sta) (l:List Lab) (e:Ev):Nat→Ser→Bool→Prop
  | found {i:Nat} {x:Ser} (hf:findV s l=some i) (hx:s.2.2.2[i]? = some x) (hl:x.1=l) (hlv:LvX s x) (ht:x.2.1<e.1):PlaceAt s l e i x false
  | room {i:Nat} (hf:findV s l=none) (hs:e.2.2.2=false) (hr:roomV s=some i):PlaceAt s l e i (l,(-1,(r0w,(emp s.1,s0)))) true
theorem findR_some {s:Sta} (h:Whole s) {l:List Lab} {i:Nat} (hf:findV s l=some i):findR s l=((i:Int),0):=by
  unfold findR;rw[if_pos h,hf]
theorem findR_none {s:Sta} (h:Whole s) {l:List Lab} (hf:findV s l=none):findR s l=(0,3):=by
  unfold findR;rw[if_pos h,hf]
def tierW (c:Conf) (k:Int):Int:=if k=0 then c.2.1.1 else if k=1 then c.2.1.2.1 else c.2.1.2.2
def tierN (c:Conf) (k:Int):Int:=if k=0 then c.2.2.1.1 else if k=1 then c.2.2.1.2.1 else c.2.2.1.2.2
noncomputable def keptV (s:Sta) (k:Int):Int×(Int×Int) :=
  if StaOk s then (if k<0∨2<k then (0,(0,1)) else ((oldV s.2.1 (tierW s.1 k) (tierN s.1 k)).1,(s.2.1 / tierW s.1 k,0))) else (0,(0,2))
theorem old_none {now w m:Int} (h:OfP now w) (hm:1≤m∧m≤4096):(oldV now w m).2=0:=by
  unfold oldV;rw[if_pos ⟨h,hm.1,hm.2⟩]
theorem csc_kept (n:Nat) {s:Sta} (hw:StaW s) (k:Int):csc_Kept (n+16) s k=some (keptV s k):=by
  rw[csc_Kept_eq,csc_tiers_eq,stt_check n hw]
  unfold keptV
  by_cases h:StaOk s
  case neg=>rw[if_neg h,if_neg h];rfl
  rw[if_pos h,if_pos h]
  have hr:=h.whole.1.rng
  have ht:=h.clock.1
  simp only[obs,decide_true,Bool.not_true,tff,tfd,tfn,wi_oldest (n+11)]
  by_cases h1:k<0
  · rw[if_pos h1,if_pos (Or.inl h1)];rfl
  rw[if_neg h1]
  by_cases h2:3≤k
  · rw[if_pos h2,if_pos (show k<0∨2<k by omega)];rfl
  rw[if_neg h2,if_neg (show ¬(k<0∨2<k) by omega)]
  simp only[obs,if_true]
  have q0:=quo_at ht hr.w0.1;have q1:=quo_at ht hr.w1.1;have q2:=quo_at ht hr.w2.1
  rcases (by omega:k=0∨k=1∨k=2) with e | e | e
  · subst e
    simp only[if_true,if_neg (nz hr.w0.1),q0,old_none ⟨ht.1,ht.2,hr.w0.1,hr.w0.2⟩ hr.n0];rfl
  · subst e
    simp only[if_true,if_neg (show ¬((1:Int)=0) by decide),if_neg (nz hr.w1.1),q1,old_none ⟨ht.1,ht.2,hr.w1.1,hr.w1.2⟩ hr.n1];rfl
  · subst e
    simp only[if_true,if_neg (show ¬((2:Int)=0) by decide),if_neg (show ¬((2:Int)=1) by decide),if_neg (nz hr.w2.1),q2,old_none ⟨ht.1,ht.2,hr.w2.1,hr.w2.2⟩ hr.n2];rfl
theorem mrgE_fine {a b:Cel} (ha:CellOk a) (hb:CellOk b) (h:Ahead a b):mrgE a b=(mrg a b,0):=by
  unfold mrgE;rw[if_pos ⟨ha,hb⟩,if_pos h]
theorem allE_last {w:Int}:∀(L:List Slo) (c:Cel) (lo hi:Int),Up L→(∀s∈L,FitsP s.2 w s.1∧lo≤s.1∧s.1<hi)→CellOk c→(c=z0∨c.2.2.1.1 / w<lo)→lo≤hi→(allE c (L.map (·.2))).1=z0∨(allE c (L.map (·.2))).1.2.2.1.1 / w<hi:=by
  intro L
  induction L with
  | nil=>intro c lo hi _ _ _ h hle;rcases h with h | h;exact .inl h;exact .inr (by simp only[List.map_nil,allE];omega)
  | cons s L ih =>
    intro c lo hi hu hs hc hl hle
    unfold Up at hu
    rw[List.pairwise_cons] at hu
    obtain ⟨hf,h1,h2⟩:=hs s (by simp)
    have ha:Ahead c s.2:=by
      rcases hl with h | h
      · exact .inl h
      · refine .inr (.inr ?_)
        have e:=hf.f
        rcases Int.lt_or_le c.2.2.1.1 s.2.2.1.1 with q | q
        · exact q
        · have:=Int.ediv_le_ediv (c:=w) (by have:=hf.w0;omega) q
          omega
    simp only[List.map_cons,allE]
    rw[mrgE_fine hc hf.n.ok ha,if_pos rfl]
    refine ih _ (s.1+1) hi hu.2 (fun x hx=>⟨(hs x (by simp[hx])).1,by have:=hu.1 x hx;omega,(hs x (by simp[hx])).2.2⟩) (mrg_ok hc hf.n.ok ha) (.inr ?_) (by omega)
    have el:(mrg c s.2).2.2.1.1=s.2.2.2.1.1:=by
      unfold mrg
      by_cases k:c=z0
      · rw[if_pos k]
      · rw[if_neg k,if_neg hf.n.ne]
    rw[el,hf.l];omega
theorem tfold_last {t:List Slo} {w i j a:Int} (h:TierOk t w) (hb:NoBehind t a) (h0:0≤i) (ha:i≤a):CellOk (tfold t i j).1∧((tfold t i j).1=z0∨(tfold t i j).1.2.2.1.1 / w<a):=by
  refine ⟨tfold_okc _ _ _,?_⟩
  unfold tfold
  split
  · exact .inl rfl
  · unfold within
    have hn:=(noBehind_iff h a).1 hb
    refine allE_last (w:=w) _ z0 i a ((tall_up h).filter _) (fun s hs => ?_) ok_z0 (.inl rfl) ha
    obtain ⟨s1,s2⟩:=List.mem_filter.1 hs
    have s2:=of_decide_eq_true s2
    exact ⟨(tall_fits h s1).1,s2.1,hn s s1⟩
theorem ahead_of {a b:Cel} {w k:Int} (hw:1≤w) (ha:a=z0∨a.2.2.1.1 / w<k) (hb:b=z0∨b.2.1.1 / w=k):Ahead a b:=by
  rcases ha with ha | ha
  · exact .inl ha
  rcases hb with hb | hb
  · exact .inr (.inl hb)
  refine .inr (.inr ?_)
  rcases Int.lt_or_le a.2.2.1.1 b.2.1.1 with q | q
  · exact q
  · have:=Int.ediv_le_ediv (c:=w) (by omega) q
    omega
theorem allE_first {w:Int}:∀(L:List Slo) (c:Cel) (lo:Int),Up L→(∀s∈L,FitsP s.2 w s.1∧lo≤s.1)→CellOk c→(c=z0∨c.2.2.1.1 / w<lo)→∀b:Int,(c=z0∨b≤c.2.1.1 / w)→b≤lo→(allE c (L.map (·.2))).1=z0∨b≤(allE c (L.map (·.2))).1.2.1.1 / w:=by
  intro L
  induction L with
  | nil=>intro c lo _ _ _ _ b hb _;exact hb
  | cons s L ih =>
    intro c lo hu hs hc hl b hb hbl
    unfold Up at hu
    rw[List.pairwise_cons] at hu
    obtain ⟨hf,h1⟩:=hs s (by simp)
    have ha:Ahead c s.2:=by
      rcases hl with h | h
      · exact .inl h
      · refine .inr (.inr ?_)
        have e:=hf.f
        rcases Int.lt_or_le c.2.2.1.1 s.2.2.1.1 with q | q
        · exact q
        · have:=Int.ediv_le_ediv (c:=w) (by have:=hf.w0;omega) q
          omega
    simp only[List.map_cons,allE]
    rw[mrgE_fine hc hf.n.ok ha,if_pos rfl]
    refine ih _ (s.1+1) hu.2 (fun x hx=>⟨(hs x (by simp[hx])).1,by have:=hu.1 x hx;omega⟩) (mrg_ok hc hf.n.ok ha) (.inr ?_) b ?_ (by omega)
    · have el:(mrg c s.2).2.2.1.1=s.2.2.2.1.1:=by
        unfold mrg
        by_cases k:c=z0
        · rw[if_pos k]
        · rw[if_neg k,if_neg hf.n.ne]
      rw[el,hf.l];omega
    · unfold mrg
      by_cases k:c=z0
      · rw[if_pos k,hf.f];exact .inr (by omega)
      · rw[if_neg k,if_neg hf.n.ne]
        rcases hb with hb | hb
        · exact absurd hb k
        · exact .inr hb
theorem tfold_first {t:List Slo} {w i j:Int} (h:TierOk t w) (h0:0≤i):(tfold t i j).1=z0∨i≤(tfold t i j).1.2.1.1 / w:=by
  unfold tfold
  split
  · exact .inl rfl
  · unfold within
    refine allE_first (w:=w) _ z0 i ((tall_up h).filter _) (fun s hs => ?_) ok_z0 (.inl rfl) i (.inl rfl) (Int.le_refl _)
    obtain ⟨s1,s2⟩:=List.mem_filter.1 hs
    have s2:=of_decide_eq_true s2
    exact ⟨(tall_fits h s1).1,s2.1⟩
theorem now_up {t:List Slo} {a b T:Int} {cur:Cel} (h:TierOk t a) (hb:NoBehind t (T / a)) (ha:1≤a) (hb1:1≤b) (hm:b % a=0) (hT:0≤T) (hc:CellN cur) (hf:cur.2.1.1 / a=T / a) :
    ∃m,mrgE (tfold t (T / b*(b / a)) (T / a)).1 cur=(m,0)∧CellN m∧m.2.1.1 / b=T / b:=by
  have hp:=factor_pos ha hb1 hm
  have q:=(edvm (t:=T) ha hb1 hm).2
  have hT':0≤T / b:=Int.ediv_nonneg hT (by omega)
  have u0:T / b*(b / a)≤T / a:=by rw[←q];exact Int.ediv_mul_le _ (by omega)
  have p0:0≤T / b*(b / a):=Int.mul_nonneg hT' (by omega)
  obtain ⟨k1,k2⟩:=tfold_last (j:=T / a) h hb p0 u0
  have k3:=tfold_first (j:=T / a) h p0
  have hah:=ahead_of ha k2 (.inr hf)
  refine ⟨_,mrgE_fine k1 hc.ok hah,?_,?_⟩
  · rcases k1 with z | z
    · rw[z,z0_mrg];exact hc
    · rcases hah with y | y | y
      · rw[y,z0_mrg];exact hc
      · exact absurd y hc.ne
      · exact mrg_N z hc y
  · unfold mrg
    by_cases z:(tfold t (T / b*(b / a)) (T / a)).1=z0
    · rw[if_pos z,←(edvm (t:=cur.2.1.1) ha hb1 hm).2,hf,q]
    · rw[if_neg z,if_neg hc.ne]
      have z1:=k2.resolve_left z
      have z2:=k3.resolve_left z
      have z3:=(k1.n z).ft
      have z4:(tfold t (T / b*(b / a)) (T / a)).1.2.1.1 / a≤(tfold t (T / b*(b / a)) (T / a)).1.2.2.1.1 / a:=Int.ediv_le_ediv (by omega) z3
      rw[←(edvm (t:=(tfold t (T / b*(b / a)) (T / a)).1.2.1.1) ha hb1 hm).2]
      have z5:(tfold t (T / b*(b / a)) (T / a)).1.2.1.1 / a / (b / a)≤T / a / (b / a):=Int.ediv_le_ediv (by omega) (by omega)
      have z6:T / b≤(tfold t (T / b*(b / a)) (T / a)).1.2.1.1 / a / (b / a):=by rw[Int.le_ediv_iff_mul_le hp];exact z2
      omega
theorem range_fine {t:List Slo} {w T i j:Int} {cur:Cel} {ok:Prop} [Decidable ok] (hok:ok) (h:TierOk t w) (hb:T = -1∨NoBehind t (T / w)∧CellN cur∧cur.2.1.1 / w=T / w) (h0:0≤i) (hij:i≤j):(rangeV ok i j T w t (cur,0)).2=0:=by
  unfold rangeV
  rw[if_pos hok,if_neg (by omega),if_neg (by omega)]
  by_cases h1:T = -1
  · rw[if_pos h1]
  rw[if_neg h1]
  obtain ⟨hb,hc,hf⟩:=hb.resolve_left h1
  by_cases h2:T / w<i
  · rw[if_pos h2];exact tfold_none h h0 hij
  rw[if_neg h2]
  by_cases h3:j≤T / w
  · rw[if_pos h3];exact tfold_none h h0 hij
  rw[if_neg h3,if_neg (nn rfl)]
  obtain ⟨k1,k2⟩:=tfold_last (j:=j) h hb h0 (by omega:i≤T / w)
  rw[mrgE_fine k1 hc.ok (ahead_of h.w0 k2 (.inr hf))]
structure Ends3 (c:Conf) (s:Ser):Prop where
  t0:s.2.1 = -1∨NoBehind s.2.2.2.1.1 (s.2.1 / c.2.1.1)∧CellN s.2.2.2.2.2∧s.2.2.2.2.2.2.1.1 / c.2.1.1=s.2.1 / c.2.1.1
  t1:s.2.1 = -1∨∃m,now1 c s=(m,0)∧NoBehind s.2.2.2.1.2.1 (s.2.1 / c.2.1.2.1)∧CellN m∧m.2.1.1 / c.2.1.2.1=s.2.1 / c.2.1.2.1
  t2:s.2.1 = -1∨∃m,now2 c s=(m,0)∧NoBehind s.2.2.2.1.2.2 (s.2.1 / c.2.1.2.2)∧CellN m∧m.2.1.1 / c.2.1.2.2=s.2.1 / c.2.1.2.2
theorem serOk_ends3 {c:Conf} {s:Ser} (h:SerOk c s):Ends3 c s:=by
  have hr:=h.fold.cok.rng
  by_cases hn:s.2.1 = -1
  · exact ⟨.inl hn,.inl hn,.inl hn⟩
  have ht:=serOk_at h hn
  obtain ⟨he,_⟩:=serOk_ends h hn
  have hf:s.2.2.2.2.2.2.1.1 / c.2.1.1=s.2.1 / c.2.1.1:=by
    rw[he.fit.f,←he.fit.l,he.ol]
  obtain ⟨m1,a1,a2,a3⟩:=now_up h.fold.t0 he.b0 hr.w0.1 hr.w1.1 h.fold.cok.m1 ht.1 he.fit.n hf
  obtain ⟨m2,b1,b2,b3⟩:=now_up h.fold.t1 he.b1 hr.w1.1 hr.w2.1 h.fold.cok.m2 ht.1 a2 a3
  have e1:now1 c s=(m1,0):=a1
  refine ⟨.inr ⟨he.b0,he.fit.n,hf⟩,.inr ⟨m1,e1,he.b1,a2,a3⟩,.inr ⟨m2,?_,he.b2,b2,b3⟩⟩
  unfold now2
  rw[e1,if_neg (nn rfl)]
  exact b1
noncomputable def rangeK (c:Conf) (s:Ser) (k i j:Int):Cel×Int :=
  if k=0 then rangeV (SerOk c s) i j s.2.1 c.2.1.1 s.2.2.2.1.1 (s.2.2.2.2.2,0)
  else if k=1 then rangeV (SerOk c s) i j s.2.1 c.2.1.2.1 s.2.2.2.1.2.1 (now1 c s)
  else rangeV (SerOk c s) i j s.2.1 c.2.1.2.2 s.2.2.2.1.2.2 (now2 c s)
theorem rangeK_fine {c:Conf} {s:Ser} (h:SerOk c s) (k:Int) {i j:Int} (h0:0≤i) (hij:i≤j):(rangeK c s k i j).2=0:=by
  have he:=serOk_ends3 h
  unfold rangeK
  split
  · exact range_fine h h.fold.t0 he.t0 h0 hij
  split
  · by_cases hn:s.2.1 = -1
    · unfold rangeV;rw[if_pos h,if_neg (by omega),if_neg (by omega),if_pos hn]
    · obtain ⟨m,e,k1,k2,k3⟩:=he.t1.resolve_left hn
      rw[e];exact range_fine h h.fold.t1 (.inr ⟨k1,k2,k3⟩) h0 hij
  · by_cases hn:s.2.1 = -1
    · unfold rangeV;rw[if_pos h,if_neg (by omega),if_neg (by omega),if_pos hn]
    · obtain ⟨m,e,k1,k2,k3⟩:=he.t2.resolve_left hn
      rw[e];exact range_fine h h.fold.t2 (.inr ⟨k1,k2,k3⟩) h0 hij
theorem live_ok {s:Sta} (h:StaOk s) {x:Ser} (hx:x∈s.2.2.2) (hl:LvX s x):SerOk s.1 x∧0≤x.2.1:=by
  obtain ⟨i,hi,e⟩:=List.getElem_of_mem hx
  rcases h.right i x (by rw[List.getElem?_eq_getElem hi,e]) with k | k
  · exact absurd k hl.1
  · exact ⟨k.1,k.2.1⟩
section
variable {del:Ev×Unit→Option Bool} {p:Ev→Bool} {L:List Ev} (hd:∀x∈L,del (x,())=some (p x))
include hd
end
def WidP (w:Int):Prop:=1≤w∧w≤1099511627776
instance (w:Int):Decidable (WidP w):=by unfold WidP;infer_instance
def RngP (a b:Int):Prop:=0≤a∧b≤35184372088832∧a<b
instance (a b:Int):Decidable (RngP a b):=by unfold RngP;infer_instance
def spanV (a b w:Int):Int×(Int×Int):=if WidP w∧RngP a b then (if a % w=0∧b % w=0 then (a / w,(b / w,0)) else (0,(0,10))) else (0,(0,1))
theorem span_tail {w:Int} (a b:Int) (hw:WidP w) :
    (tif (decide (a<(0:Int))) (some ((0:Int),((0:Int),(1:Int)))) (
    tif (decide ((35184372088832:Int)<b)) (some ((0:Int),((0:Int),(1:Int)))) (
    tif (decide (b≤a)) (some ((0:Int),((0:Int),(1:Int)))) (
    tif (decide (w=(0:Int))) none (
    tif (!(decide ((Int.tmod a w)=(0:Int)))) (some ((0:Int),((0:Int),(10:Int)))) (
    tif (decide (w=(0:Int))) none (
    tif (!(decide ((Int.tmod b w)=(0:Int)))) (some ((0:Int),((0:Int),(10:Int)))) (
    tif (decide (w=(0:Int))) none (
    tif (decide (w=(0:Int))) none (
    some ((IntKind.wrap .i64 (Int.tdiv a w)),((IntKind.wrap .i64 (Int.tdiv b w)),(0:Int)))))))))))))=some (spanV a b w):=by
  obtain ⟨w1,w2⟩:=hw
  unfold spanV
  simp only[tfd,tfn]
  by_cases h:RngP a b
  · obtain ⟨h1,h2,h3⟩:=h
    have qa:0≤a / w∧a / w≤a:=⟨Int.ediv_nonneg h1 (by omega),Int.ediv_le_self _ h1⟩
    have qb:0≤b / w∧b / w≤b:=⟨Int.ediv_nonneg (by omega) (by omega),Int.ediv_le_self _ (by omega)⟩
    rw[if_neg (by omega),if_neg (by omega),if_neg (by omega),if_neg (by omega),if_pos (show WidP w∧RngP a b from ⟨⟨w1,w2⟩,h1,h2,h3⟩),tmod_nn h1,tmod_nn (show 0≤b by omega),tdiv_nn h1,tdiv_nn (show 0≤b by omega),w64 (by omega) (by omega),w64 (by omega) (by omega)]
    by_cases ha:a % w=0
    · rw[if_pos ha,if_neg (by omega)]
      by_cases hb:b % w=0
      · rw[if_pos hb,if_neg (by omega),if_neg (by omega),if_pos ⟨ha,hb⟩]
      · rw[if_neg hb,if_neg (fun k=>hb k.2)]
    · rw[if_neg ha,if_neg (fun k=>ha k.1)]
  · rw[if_neg (show ¬(WidP w∧RngP a b) from fun k=>h k.2)]
    by_cases h1:a<0
    · rw[if_pos h1]
    rw[if_neg h1]
    by_cases h2:35184372088832<b
    · rw[if_pos h2]
    rw[if_neg h2,if_pos (by unfold RngP at h;omega)]
theorem wi_span (n:Nat) (a b w:Int):wi_Span (n+3) a b w=some (spanV a b w):=by
  rw[wi_Span_eq,wi_width_eq,wi_in,obs,obs,tfn,tfd]
  by_cases h:WidP w
  · rw[if_pos (show 1≤w∧w≤1099511627776 from h)];exact span_tail a b h
  · rw[if_neg (show ¬(1≤w∧w≤1099511627776) from h)];unfold spanV;rw[if_neg (fun k=>h k.1)]
noncomputable def oneV (s:Sta) (k a b:Int):Int :=
  if (spanV a b (tierW s.1 k)).2.2=0 then (if (spanV a b (tierW s.1 k)).1<(oldV s.2.1 (tierW s.1 k) (tierN s.1 k)).1 then 11 else 0) else (spanV a b (tierW s.1 k)).2.2
theorem kept_ok {s:Sta} (h:StaOk s) {k:Int} (h0:0≤k) (h2:k≤2):keptV s k=((oldV s.2.1 (tierW s.1 k) (tierN s.1 k)).1,(s.2.1 / tierW s.1 k,0)):=by
  unfold keptV;rw[if_pos h,if_neg (by omega)]
theorem tier3 {t:Int} (h1:1≤t) (h3:t≤3):IntKind.wrap .i64 (t-1)=t-1:=w64 (by omega) (by omega)
theorem query_one_val (n:Nat) {s:Sta} (hw:StaW s) (h:StaOk s) {t:Int} (h1:1≤t) (h3:t≤3) (a b:Int):query_one (n+17) s t a b=some (oneV s (t-1) a b):=by
  rw[query_one_eq,tier3 h1 h3]
  have hk:=kept_ok h (k:=t-1) (by omega) (by omega)
  unfold oneV
  rcases (by omega:t=1∨t=2∨t=3) with e | e | e<;>subst e
  · rw[show ((1:Int)-1)=0 from rfl] at hk ⊢
    rw[decide_eq_true (show (0:Int)=0 from rfl),tft]
    change obind (wi_Span _ a b (tierW s.1 0)) _=_
    rw[wi_span (n+13),obs,tfn,tfd,csc_kept n hw 0,hk,obs]
    by_cases hs:(spanV a b (tierW s.1 0)).2.2=0
    · rw[if_pos hs,if_pos hs,decide_eq_true rfl,tft,tfd];split<;>rfl
    · rw[if_neg hs,if_neg hs]
  · rw[show ((2:Int)-1)=1 from rfl] at hk ⊢
    rw[decide_eq_false (show ¬((1:Int)=0) by decide),tff]
    rw[decide_eq_true (show (1:Int)=1 from rfl),tft]
    change obind (wi_Span _ a b (tierW s.1 1)) _=_
    rw[wi_span (n+13),obs,tfn,tfd,csc_kept n hw 1,hk,obs]
    by_cases hs:(spanV a b (tierW s.1 1)).2.2=0
    · rw[if_pos hs,if_pos hs,decide_eq_true rfl,tft,tfd];split<;>rfl
    · rw[if_neg hs,if_neg hs]
  · rw[show ((3:Int)-1)=2 from rfl] at hk ⊢
    rw[decide_eq_false (show ¬((2:Int)=0) by decide),tff]
    rw[decide_eq_false (show ¬((2:Int)=1) by decide),tff]
    rw[decide_eq_true (show (2:Int)=2 from rfl),tft]
    change obind (wi_Span _ a b (tierW s.1 2)) _=_
    rw[wi_span (n+13),obs,tfn,tfd,csc_kept n hw 2,hk,obs]
    by_cases hs:(spanV a b (tierW s.1 2)).2.2=0
    · rw[if_pos hs,if_pos hs,decide_eq_true rfl,tft,tfd];split<;>rfl
    · rw[if_neg hs,if_neg hs]
theorem span_why (a b w:Int):(spanV a b w).2.2=0∨(spanV a b w).2.2=1∨(spanV a b w).2.2=10:=by
  unfold spanV;split
  · split
    · exact .inl rfl
    · exact .inr (.inr rfl)
  · exact .inr (.inl rfl)
theorem one_why (s:Sta) (k a b:Int):oneV s k a b=0∨oneV s k a b=1∨oneV s k a b=10∨oneV s k a b=11:=by
  unfold oneV
  rcases span_why a b (tierW s.1 k) with h | h | h<;>rw[h]
  · rw[if_pos rfl];split
    · exact .inr (.inr (.inr rfl))
    · exact .inl rfl
  · exact .inr (.inl rfl)
  · exact .inr (.inr (.inl rfl))
noncomputable def whichV (s:Sta) (a b:Int):Nat→Int→Int→Int×Int
  | 0,_,why=>(0,why)
  | d+1,t,why=>if oneV s (t-1) a b=0 then (t,0) else if oneV s (t-1) a b=1 then (0,1) else whichV s a b d (t+1) (if oneV s (t-1) a b=11 then 11 else why)
theorem which_0 {s:Sta} {a b t:Int} (e:oneV s (t-1) a b=0) (d:Nat) (why:Int):whichV s a b (d+1) t why=(t,0):=by
  conv=>lhs;unfold whichV
  rw[if_pos e]
theorem which_1 {s:Sta} {a b t:Int} (e:oneV s (t-1) a b=1) (d:Nat) (why:Int):whichV s a b (d+1) t why=(0,1):=by
  conv=>lhs;unfold whichV
  rw[if_neg (by omega),if_pos e]
theorem which_10 {s:Sta} {a b t:Int} (e:oneV s (t-1) a b=10) (d:Nat) (why:Int):whichV s a b (d+1) t why=whichV s a b d (t+1) why:=by
  conv=>lhs;unfold whichV
  rw[if_neg (by omega),if_neg (by omega),if_neg (by omega)]
theorem which_11 {s:Sta} {a b t:Int} (e:oneV s (t-1) a b=11) (d:Nat) (why:Int):whichV s a b (d+1) t why=whichV s a b d (t+1) 11:=by
  conv=>lhs;unfold whichV
  rw[if_neg (by omega),if_neg (by omega),if_pos e]
theorem query_which_l3 (n:Nat) {s:Sta} (hw:StaW s) (h:StaOk s) (a b:Int):∀(d f:Nat) (t why:Int),1≤t→t+d=4→d<f →
    query_whichever_l3 (n+17) f (a,b,s,why,t,())=some (if (whichV s a b d t why).2=0 then .inr (whichV s a b d t why) else if (whichV s a b d t why).2=1 then .inr (whichV s a b d t why) else .inl ((whichV s a b d t why).2,()))∨(why≠10∧why≠11):=by
  intro d
  induction d with
  | zero =>
    intro f t why h1 ht hf
    obtain ⟨f,rfl⟩:∃g,f=g+1:=⟨f-1,by omega⟩
    by_cases hy:why≠10∧why≠11
    · exact .inr hy
    refine .inl ?_
    rw[query_whichever_l3_eq,decide_eq_false (by omega),tff]
    unfold whichV
    rw[if_neg (by simp only;omega),if_neg (by simp only;omega)]
  | succ d ih =>
    intro f t why h1 ht hf
    obtain ⟨f,rfl⟩:∃g,f=g+1:=⟨f-1,by omega⟩
    by_cases hy:why≠10∧why≠11
    · exact .inr hy
    refine .inl ?_
    rw[query_whichever_l3_eq,decide_eq_true (by omega),tft,query_one_val n hw h h1 (by omega),obs,w64 (by omega) (by omega)]
    simp only[tfd]
    rcases one_why s (t-1) a b with e | e | e | e
    · rw[which_0 e,e,if_pos rfl,if_pos rfl]
    · rw[which_1 e,e,if_neg (by decide),if_neg (by decide),if_neg (by decide),if_neg (by decide),if_pos rfl]
    · rw[which_10 e,e,if_neg (by decide),if_pos rfl]
      exact (ih f (t+1) why (by omega) (by omega) (by omega)).resolve_right hy
    · rw[which_11 e,e,if_neg (by decide),if_neg (by decide),if_pos rfl]
      exact (ih f (t+1) 11 (by omega) (by omega) (by omega)).resolve_right (by decide)
theorem query_which (n:Nat) {s:Sta} (hw:StaW s) (h:StaOk s) (a b:Int):query_whichever (n+18) s a b=some (whichV s a b 3 1 10):=by
  rw[query_whichever_eq]
  change obind (query_whichever_l3 (n+17) loopFuel (a,b,s,10,1,())) _=_
  rw[(query_which_l3 n hw h a b 3 loopFuel 1 10 (by decide) rfl (by unfold loopFuel;omega)).resolve_right (by decide),obs]
  split
  · rfl
  · split
    · rfl
    · rename_i h0 h1
      rw[selim_inl]
      have hz:(whichV s a b 3 1 10).1=0:=by
        have key:∀(d:Nat) (t why:Int),(whichV s a b d t why).2≠0→(whichV s a b d t why).1=0:=by
          intro d
          induction d with
          | zero=>intro t why _;rfl
          | succ d ih =>
            intro t why
            unfold whichV
            split
            · intro k;exact absurd rfl k
            · split
              · intro _;rfl
              · exact ih _ _
        exact key 3 1 10 h0
      exact congrArg some (Prod.ext hz.symm rfl)
noncomputable def tierV (s:Sta) (t a b:Int):Int×Int :=
  if StaOk s then (if t<0∨3<t then (0,1) else if t=0 then whichV s a b 3 1 10 else if oneV s (t-1) a b=0 then (t,0) else (0,oneV s (t-1) a b)) else (0,2)
theorem query_tier (n:Nat) {s:Sta} (hw:StaW s) (t a b:Int):query_Tier (n+19) s t a b=some (tierV s t a b):=by
  rw[query_Tier_eq,stt_check (n+4) hw,obs,tfn,tfd]
  unfold tierV
  by_cases h:StaOk s
  case neg=>rw[if_neg h,if_neg h];rfl
  rw[if_pos h,if_pos h,if_pos rfl]
  simp only[tfd,tfn]
  by_cases h0:t<0
  · rw[if_pos h0,if_pos (.inl h0)]
  by_cases h3:3<t
  · rw[if_neg h0,if_pos h3,if_pos (.inr h3)]
  rw[if_neg h0,if_neg h3,if_neg (show ¬(t<0∨3<t) by omega)]
  by_cases hz:t=0
  · rw[if_pos hz,if_pos hz,query_which n hw h,obs]
  · rw[if_neg hz,if_neg hz,query_one_val (n+1) hw h (by omega) (by omega),obs]
    by_cases ho:oneV s (t-1) a b=0
    · rw[if_pos ho,if_pos ho]
    · rw[if_neg ho,if_neg ho]
def rateC (c:Cel):(Wd×Wd)×Int:=if c.2.2.2.2.2.2<1 then (((0,0),(0,0)),12) else rateV c.2.2.2.1 c.2.2.2.2.2.2
theorem query_rate (n:Nat) {c:Cel} (hw:WdOk c.2.2.2.1) (hs:c.2.2.2.2.2.2≤9223372036854775807):query_Rate (n+7) c=some (rateC c):=by
  rw[query_Rate_eq,tfd]
  unfold rateC
  by_cases h:c.2.2.2.2.2.2<1
  · rw[if_pos h,if_pos h]
  · rw[if_neg h,if_neg h,wu64 (by omega) (by omega),ratio_rate n hw ⟨by omega,by omega⟩,obs]
theorem ser_rangeK (n:Nat) (c:Conf) {s:Ser} (hw:SerW s) {k:Int} (h0:0≤k) (h2:k≤2) (i j:Int):series_Range (n+22) c s k i j=some (rangeK c s k i j):=by
  unfold rangeK
  rcases (by omega:k=0∨k=1∨k=2) with e | e | e
  · subst e;rw[if_pos rfl];exact series_range0 n c hw i j
  · subst e;rw[if_neg (by decide),if_pos rfl];exact series_range1 n c hw i j
  · subst e;rw[if_neg (by decide),if_neg (by decide)];exact series_range2 n c hw i j
theorem span_ok {a b w:Int} (h:(spanV a b w).2.2=0):WidP w∧RngP a b∧a % w=0∧b % w=0∧spanV a b w=(a / w,(b / w,0))∧0≤a / w∧a / w≤b / w:=by
  unfold spanV at h ⊢
  split at h
  · rename_i h1
    split at h
    · rename_i h2
      rw[if_pos h1,if_pos h2]
      exact ⟨h1.1,h1.2,h2.1,h2.2,rfl,Int.ediv_nonneg h1.2.1 (by have:=h1.1.1;omega),Int.ediv_le_ediv (by have:=h1.1.1;omega) (Int.le_of_lt h1.2.2.2)⟩
    · cases h
  · cases h
theorem one_ok {s:Sta} {k a b:Int} (h:oneV s k a b=0):(spanV a b (tierW s.1 k)).2.2=0∧(oldV s.2.1 (tierW s.1 k) (tierN s.1 k)).1≤(spanV a b (tierW s.1 k)).1:=by
  unfold oneV at h
  split at h
  · rename_i h1
    split at h
    · cases h
    · exact ⟨h1,by omega⟩
  · rename_i h1;exact absurd h h1
theorem which_ok {s:Sta} {a b:Int}:∀(d:Nat) (t why:Int),why≠0→(whichV s a b d t why).2=0→t≤(whichV s a b d t why).1∧(whichV s a b d t why).1<t+d∧oneV s ((whichV s a b d t why).1-1) a b=0:=by
  intro d
  induction d with
  | zero=>intro t why hw h;exact absurd h hw
  | succ d ih =>
    intro t why hw h
    rcases one_why s (t-1) a b with e | e | e | e
    · rw[which_0 e];exact ⟨by simp only;omega,by simp only;omega,e⟩
    · rw[which_1 e] at h;cases h
    · rw[which_10 e] at h ⊢
      obtain ⟨h1,h2,h3⟩:=ih (t+1) why hw h
      exact ⟨by omega,by omega,h3⟩
    · rw[which_11 e] at h ⊢
      obtain ⟨h1,h2,h3⟩:=ih (t+1) 11 (by decide) h
      exact ⟨by omega,by omega,h3⟩
theorem tier_ok {s:Sta} {t a b:Int} (h:(tierV s t a b).2=0):StaOk s∧1≤(tierV s t a b).1∧(tierV s t a b).1≤3∧oneV s ((tierV s t a b).1-1) a b=0∧0≤t∧t≤3∧(1≤t→(tierV s t a b).1=t):=by
  unfold tierV at h ⊢
  by_cases hs:StaOk s
  case neg=>rw[if_neg hs] at h;cases h
  rw[if_pos hs] at h ⊢
  by_cases h1:t<0∨3<t
  · rw[if_pos h1] at h;cases h
  rw[if_neg h1] at h ⊢
  by_cases h0:t=0
  · rw[if_pos h0] at h ⊢
    obtain ⟨k1,k2,k3⟩:=which_ok 3 1 10 (by decide) h
    exact ⟨hs,k1,by omega,k3,by omega,by omega,by omega⟩
  · rw[if_neg h0] at h ⊢
    by_cases ho:oneV s (t-1) a b=0
    · rw[if_pos ho];exact ⟨hs,by simp only;omega,by simp only;omega,ho,by omega,by omega,fun _=>rfl⟩
    · rw[if_neg ho] at h;exact absurd h ho
noncomputable def cellQ (s:Sta) (l:List Lab) (k a b:Int):Cel :=
  match findV s l with
  | some i=>(rangeK s.1 ((s.2.2.2[i]?).getD ser0) k (a / tierW s.1 k) (b / tierW s.1 k)).1
  | none=>z0
theorem found {s:Sta} (hs:StaOk s) {l:List Lab} {i:Nat} (h:findV s l=some i):∃x,s.2.2.2[i]? = some x∧x.1=l∧LvX s x∧SerOk s.1 x:=by
  obtain ⟨x,hx,h1,h2,_⟩:=findV_some.1 h
  exact ⟨x,hx,h1,h2,(live_ok hs (List.mem_of_getElem? hx) h2).1⟩
theorem query_of_val (n:Nat) {s:Sta} (hw:StaW s) (hs:StaOk s) {q:List Lab×(Int×(Int×Int))} {k:Int} (h0:0≤k) (h2:k≤2) (ho:oneV s k q.2.2.1 q.2.2.2=0):query_of (n+23) s q k=some (cellQ s q.1 k q.2.2.1 q.2.2.2,0):=by
  obtain ⟨l,t,a,b⟩:=q
  simp only at ho ⊢
  rw[query_of_eq]
  simp only
  rw[stt_find (n+12) hw l,obs,tfn,tfd]
  unfold cellQ
  cases hf:findV s l with
  | none=>rw[findR_none hs.whole hf,if_neg (show ¬((3:Int)=0) by decide)];rfl
  | some i =>
    obtain ⟨x,hx,hxl,hlv,hok⟩:=found hs hf
    obtain ⟨s1,s2⟩:=one_ok ho
    obtain ⟨_,_,_,_,e,e1,e2⟩:=span_ok s1
    have hfine:=rangeK_fine hok k e1 e2
    rw[findR_some hs.whole hf,if_pos rfl]
    simp only[hx,Option.getD_some]
    have fin:∀(x':Ser),x'=x→obind (series_Range (n+22) s.1 x' k (a / tierW s.1 k) (b / tierW s.1 k)) (fun r=>some r)=some ((rangeK s.1 x k (a / tierW s.1 k) (b / tierW s.1 k)).1,0):=by
      rintro x' rfl
      rw[ser_rangeK n s.1 (hw.at hx).1 h0 h2,obs]
      exact congrArg some (Prod.ext rfl hfine)
    rcases (by omega:k=0∨k=1∨k=2) with ek | ek | ek<;>subst ek
    · rw[decide_eq_true rfl,tft]
      change obind (wi_Span (n+22) a b (tierW s.1 0)) _=_
      rw[wi_span (n+19),obs,e]
      simp only[decide_true,Bool.not_true,tff]
      rw[at_el hx,obs]
      exact fin x rfl
    · rw[decide_eq_false (show ¬((1:Int)=0) by decide),tff,decide_eq_true rfl,tft]
      change obind (wi_Span (n+22) a b (tierW s.1 1)) _=_
      rw[wi_span (n+19),obs,e]
      simp only[decide_true,Bool.not_true,tff]
      rw[at_el hx,obs]
      exact fin x rfl
    · rw[decide_eq_false (show ¬((2:Int)=0) by decide),tff,decide_eq_false (show ¬((2:Int)=1) by decide),tff,decide_eq_true rfl,tft]
      change obind (wi_Span (n+22) a b (tierW s.1 2)) _=_
      rw[wi_span (n+19),obs,e]
      simp only[decide_true,Bool.not_true,tff]
      rw[at_el hx,obs]
      exact fin x rfl
theorem mrgE_okc (a b:Cel):CellOk (mrgE a b).1:=by
  unfold mrgE
  split
  · rename_i h
    split
    · rename_i ha;exact mrg_ok h.1 h.2 ha
    · exact ok_z0
  · exact ok_z0
theorem rangeV_okc (ok:Prop) [Decidable ok] (i j last w:Int) (t:List Slo) (now:Cel×Int):CellOk (rangeV ok i j last w t now).1:=by
  unfold rangeV
  split
  · split
    · exact ok_z0
    split
    · exact ok_z0
    split
    · exact ok_z0
    split
    · exact tfold_okc _ _ _
    split
    · exact tfold_okc _ _ _
    split
    · exact ok_z0
    · exact mrgE_okc _ _
  · exact ok_z0
theorem rangeK_okc (c:Conf) (s:Ser) (k i j:Int):CellOk (rangeK c s k i j).1:=by
  unfold rangeK
  split
  · exact rangeV_okc _ _ _ _ _ _ _
  split
  · exact rangeV_okc _ _ _ _ _ _ _
  · exact rangeV_okc _ _ _ _ _ _ _
theorem cellQ_ok (s:Sta) (l:List Lab) (k a b:Int):CellOk (cellQ s l k a b):=by
  unfold cellQ
  split
  · exact rangeK_okc _ _ _ _ _
  · exact ok_z0
theorem cellOk_rate {c:Cel} (h:CellOk c):WdOk c.2.2.2.1∧c.2.2.2.2.2.2≤9223372036854775807:=by
  rcases h with rfl | h
  · exact ⟨⟨by simp[z0],by simp[z0]⟩,by simp[z0]⟩
  · have h1:=h.s1;have h2:=h.l.t1;have h3:=h.f.t0
    exact ⟨h.w,by omega⟩
abbrev zr:Int×(Cel×((Wd×Wd)×Int)):=(0,(z0,(((0,0),(0,0)),0)))
noncomputable def doQ (s:Sta) (l:List Lab) (t a b:Int):(Int×(Cel×((Wd×Wd)×Int)))×Int :=
  if StaOk s then (if LabOk l then (if (tierV s t a b).2=0 then (((tierV s t a b).1,(cellQ s l ((tierV s t a b).1-1) a b,rateC (cellQ s l ((tierV s t a b).1-1) a b))),0) else (zr,(tierV s t a b).2)) else (zr,8)) else (zr,2)
theorem query_may_val (n:Nat) {s:Sta} (hw:StaW s) (l:List Lab):query_may (n+15) s l=some (if StaOk s then (if LabOk l then 0 else 8) else 2):=by
  rw[query_may_eq,stt_check n hw,obs,tfn,tfd]
  by_cases h:StaOk s
  · rw[if_pos h,if_pos h,if_pos rfl,label_check (n+8) l,obs]
  · rw[if_neg h,if_neg h,if_neg (by decide)]
theorem query_do (n:Nat) {s:Sta} (hw:StaW s) (q:List Lab×(Int×(Int×Int))):query_Do (n+24) s q=some (doQ s q.1 q.2.1 q.2.2.1 q.2.2.2):=by
  rw[query_Do_eq,query_may_val (n+8) hw,obs,tfn,tfd]
  unfold doQ
  by_cases h:StaOk s
  case neg=>rw[if_neg h,if_neg h,if_neg (by decide)];rfl
  rw[if_pos h,if_pos h]
  by_cases hl:LabOk q.1
  case neg=>rw[if_neg hl,if_neg hl,if_neg (by decide)];rfl
  rw[if_pos hl,if_pos hl,if_pos rfl,query_tier (n+4) hw,obs,tfn,tfd]
  by_cases ht:(tierV s q.2.1 q.2.2.1 q.2.2.2).2=0
  case neg=>rw[if_neg ht,if_neg ht];rfl
  obtain ⟨_,t1,t3,ho,_⟩:=tier_ok ht
  have hr:=cellOk_rate (cellQ_ok s q.1 ((tierV s q.2.1 q.2.2.1 q.2.2.2).1-1) q.2.2.1 q.2.2.2)
  rw[if_pos ht,if_pos ht,w64 (by omega) (by omega),query_of_val n hw h (by omega) (by omega) ho,obs]
  simp only[decide_true,Bool.not_true,tff]
  rw[query_rate (n+16) hr.1 hr.2,obs]
abbrev Wat:=(List Lab×(Int×(Int×Int)))×(Wd×Wd)
noncomputable def oneW (s:Sta) (w:Wat):Bool×Int :=
  if StaOk s then (if FracOk w.2 then
    (if (doQ s w.1.1 w.1.2.1 w.1.2.2.1 w.1.2.2.2).2=0 then
      (if (doQ s w.1.1 w.1.2.1 w.1.2.2.1 w.1.2.2.2).1.2.2.2=0 then
        (if (lessF (doQ s w.1.1 w.1.2.1 w.1.2.2.1 w.1.2.2.2).1.2.2.1 w.2).2=0 then (!(lessF (doQ s w.1.1 w.1.2.1 w.1.2.2.1 w.1.2.2.2).1.2.2.1 w.2).1,0) else (false,(lessF (doQ s w.1.1 w.1.2.1 w.1.2.2.1 w.1.2.2.2).1.2.2.1 w.2).2))
      else (false,(doQ s w.1.1 w.1.2.1 w.1.2.2.1 w.1.2.2.2).1.2.2.2))
    else (false,(doQ s w.1.1 w.1.2.1 w.1.2.2.1 w.1.2.2.2).2)) else (false,2)) else (false,2)
theorem rateC_w {c:Cel} (hw:WdOk c.2.2.2.1) (hs:c.2.2.2.2.2.2≤9223372036854775807):FrW (rateC c).1∧((rateC c).2=0→FracOk (rateC c).1):=by
  unfold rateC
  by_cases h:c.2.2.2.2.2.2<1
  · rw[if_pos h];exact ⟨⟨ofN_ok (x:=0) (by omega),ofN_ok (x:=0) (by omega)⟩,fun e=>by cases e⟩
  · rw[if_neg h];exact rateV_w hw ⟨by omega,by omega⟩
theorem doQ_w (s:Sta) (l:List Lab) (t a b:Int):FrW (doQ s l t a b).1.2.2.1∧((doQ s l t a b).2=0→(doQ s l t a b).1.2.2.2=0→FracOk (doQ s l t a b).1.2.2.1):=by
  have hz:FrW (((0,0),(0,0)):Wd×Wd):=⟨ofN_ok (x:=0) (by omega),ofN_ok (x:=0) (by omega)⟩
  unfold doQ
  by_cases h:StaOk s
  case neg=>rw[if_neg h];exact ⟨hz,fun e=>by cases e⟩
  rw[if_pos h]
  by_cases hl:LabOk l
  case neg=>rw[if_neg hl];exact ⟨hz,fun e=>by cases e⟩
  rw[if_pos hl]
  by_cases ht:(tierV s t a b).2=0
  case neg=>rw[if_neg ht];exact ⟨hz,fun e=>(ht e).elim⟩
  rw[if_pos ht]
  have hr:=cellOk_rate (cellQ_ok s l ((tierV s t a b).1-1) a b)
  have:=rateC_w hr.1 hr.2
  exact ⟨this.1,fun _ e=>this.2 e⟩
theorem watch_one (n:Nat) {s:Sta} (hw:StaW s) {w:Wat} (hf:FrW w.2):watch_One (n+25) s w=some (oneW s w):=by
  rw[watch_One_eq,stt_check (n+10) hw,obs]
  unfold oneW
  by_cases h:StaOk s
  case neg=>rw[if_neg h,if_neg h];rfl
  rw[if_pos h,if_pos h,ratio_check (n+19) hf]
  simp only[decide_true,Bool.not_true,tff,obs]
  by_cases h2:FracOk w.2
  case neg=>rw[if_neg h2,if_neg h2];rfl
  rw[if_pos h2,if_pos h2,query_do n hw w.1]
  simp only[decide_true,Bool.not_true,tff,obs,tfd,tfn]
  have hq:=(doQ_w s w.1.1 w.1.2.1 w.1.2.2.1 w.1.2.2.2).1
  generalize doQ s w.1.1 w.1.2.1 w.1.2.2.1 w.1.2.2.2=d at *
  by_cases h3:d.2=0
  case neg=>rw[if_neg h3,if_neg h3,if_neg h3]
  rw[if_pos h3,if_pos h3]
  by_cases h4:d.1.2.2.2=0
  case neg=>rw[if_neg h4,if_neg h4]
  rw[if_pos h4,if_pos h4,ratio_lessV (n+18) hq hf,obs]
  by_cases h5:(lessF d.1.2.2.1 w.2).2=0
  · rw[if_pos h5,if_pos h5,h5]
  · rw[if_neg h5,if_neg h5]
def plcs {α:Type} (p:α→Bool):List α→Int→List Int
  | [],_=>[]
  | x::r,i=>if p x=true then i::plcs p r (i+1) else plcs p r (i+1)
theorem plcs_len {α:Type} (p:α→Bool):∀(l:List α) (i:Int),(plcs p l i).length≤l.length:=by
  intro l
  induction l with
  | nil=>intro i;simp[plcs]
  | cons x l ih =>
    intro i
    unfold plcs
    have:=ih (i+1)
    split
    · simp;omega
    · simp;omega
theorem plcs_mem {α:Type} (p:α→Bool):∀(l:List α) (i z:Int),z∈plcs p l i↔∃k:Nat,z=i+k∧∃x,l[k]? = some x∧p x=true:=by
  intro l
  induction l with
  | nil=>intro i z;simp[plcs]
  | cons x l ih =>
    intro i z
    have step:z∈plcs p l (i+1)↔∃k:Nat,z=i+((k+1:Nat):Int)∧∃x,l[k]? = some x∧p x=true:=by
      rw[ih]
      constructor
      · rintro ⟨k,e,h⟩;exact ⟨k,by omega,h⟩
      · rintro ⟨k,e,h⟩;exact ⟨k,by omega,h⟩
    have here:(∃k:Nat,z=i+k∧∃y,(x::l)[k]? = some y∧p y=true)↔(z=i∧p x=true)∨∃k:Nat,z=i+((k+1:Nat):Int)∧∃x,l[k]? = some x∧p x=true:=by
      constructor
      · rintro ⟨k,e,y,hy,hp⟩
        cases k with
        | zero=>simp at hy;subst hy;exact .inl ⟨by omega,hp⟩
        | succ k=>exact .inr ⟨k,e,y,by simpa using hy,hp⟩
      · rintro (⟨e,hp⟩ | ⟨k,e,y,hy,hp⟩)
        · exact ⟨0,by omega,x,rfl,hp⟩
        · exact ⟨k+1,e,y,by simpa using hy,hp⟩
    rw[here,←step]
    have e:plcs p (x::l) i=if p x=true then i::plcs p l (i+1) else plcs p l (i+1):=rfl
    rw[e]
    by_cases h:p x=true
    · rw[if_pos h];simp[h]
    · rw[if_neg h];simp[h]
theorem places_l (n:Nat) (is:(Wat×Unit)→Option Bool) (p:Wat→Bool) (l:List Wat) (hL:l.length≤1000000) (his:∀x∈l,is (x,())=some (p x)):∀(rest pre:List Wat) (f:Nat) (out:List Int) (i len:Int),l=pre++rest→i=pre.length→len=l.length→rest.length<f→out.length≤pre.length →
    watch_watches_places_l3 n f (is,out,l,len,i,())=some (.inl (out++plcs p rest i,())):=by
  intro rest
  induction rest with
  | nil =>
    intro pre f out i len hl hi hn hf ho
    obtain ⟨f,rfl⟩:∃g,f=g+1:=⟨f-1,by simp at hf;omega⟩
    rw[watch_watches_places_l3_eq,decide_eq_false (idxe hl hi hn),tff];simp[plcs]
  | cons x rest ih =>
    intro pre f out i len hl hi hn hf ho
    obtain ⟨f,rfl⟩:∃g,f=g+1:=⟨f-1,by simp at hf;omega⟩
    have hlen:=congrArg List.length hl
    simp only[List.length_append,List.length_cons] at hlen
    rw[watch_watches_places_l3_eq,decide_eq_true (idx hl hi hn),tft,at_mid hl hi,obs,his x (by rw[hl];simp),obs,idxw hl hi (show l.length≤1000000000000 by omega)]
    simp only[List.length_cons] at hf
    unfold plcs
    by_cases h:p x=true
    · rw[h,tft,decide_eq_true (by omega),tft,ih (pre++[x]) f (out++[i]) (i+1) len (idxl hl) (idxs hi) hn (by omega) (by simp;omega),if_pos rfl,List.append_assoc];rfl
    · rw[Bool.not_eq_true] at h
      rw[h,tff,ih (pre++[x]) f out (i+1) len (idxl hl) (idxs hi) hn (by omega) (by simp;omega),if_neg (by decide)]
theorem places_val (n:Nat) (is:(Wat×Unit)→Option Bool) (p:Wat→Bool) (l:List Wat) (hL:l.length≤1000000) (his:∀x∈l,is (x,())=some (p x)):watch_watches_places (n+1) l is=some (plcs p l 0):=by
  rw[watch_watches_places_eq]
  have:=places_l n is p l hL his l [] loopFuel [] 0 _ rfl rfl rfl (by unfold loopFuel;omega) (Nat.le_refl _)
  rw[this,obs,selim_inl];rfl
theorem may_l (n:Nat) (l:List Sta) (hL:l.length≤1000000) (hw:∀s∈l,StaW s):∀(rest pre:List Sta) (f:Nat) (i len:Int),l=pre++rest→i=pre.length→len=l.length→rest.length<f →
    watch_watches_may_l4 (n+14) f (l,len,i,())=some (if (∀s∈rest,StaOk s) then .inl () else .inr 2):=by
  intro rest
  induction rest with
  | nil =>
    intro pre f i len hl hi hn hf
    obtain ⟨f,rfl⟩:∃g,f=g+1:=⟨f-1,by simp at hf;omega⟩
    rw[watch_watches_may_l4_eq,decide_eq_false (idxe hl hi hn),tff,if_pos (by simp)]
  | cons x rest ih =>
    intro pre f i len hl hi hn hf
    obtain ⟨f,rfl⟩:∃g,f=g+1:=⟨f-1,by simp at hf;omega⟩
    rw[watch_watches_may_l4_eq,decide_eq_true (idx hl hi hn),tft,at_mid hl hi,obs,stt_check n (hw x (by rw[hl];simp)),obs,idxw hl hi (show l.length≤1000000000000 by omega)]
    by_cases h:StaOk x
    · rw[if_pos h]
      simp only[decide_true,Bool.not_true,tff]
      rw[ih (pre++[x]) f (i+1) len (idxl hl) (idxs hi) hn (by simp at hf;omega)]
      by_cases k:∀s∈rest,StaOk s
      · rw[if_pos k,if_pos]
        intro s hs
        rcases List.mem_cons.1 hs with rfl | hs
        · exact h
        · exact k s hs
      · rw[if_neg k,if_neg fun q=>k fun s hs=>q s (by simp[hs])]
    · rw[if_neg h,if_neg fun k=>h (k x (by simp))];rfl
theorem may_val (n:Nat) (ws:List Wat) (l:List Sta) (hL:l.length≤1000000) (hw:∀s∈l,StaW s):watch_watches_may (n+15) ws l=some (if 256<ws.length then 6 else if (∀s∈l,StaOk s) then 0 else 2):=by
  rw[watch_watches_may_eq,tfd]
  by_cases h:256<ws.length
  · rw[if_pos (by omega),if_pos h]
  rw[if_neg (by omega),if_neg h]
  have:=may_l n l hL hw l [] loopFuel 0 _ rfl rfl rfl (by unfold loopFuel;omega)
  rw[this,obs]
  by_cases h2:∀s∈l,StaOk s
  · rw[if_pos h2,if_pos h2];rfl
  · rw[if_neg h2,if_neg h2];rfl
noncomputable def ringsB (s:Sta) (w:Wat):Bool:=(oneW s w).1
noncomputable def ringsV (s:Sta) (ws:List Wat):List Int×Int:=if 256<ws.length then ([],6) else if StaOk s then (plcs (ringsB s) ws 0,0) else ([],2)
noncomputable def upB (a b:Sta) (w:Wat):Bool:=ringsB b w && !ringsB a w
noncomputable def turnV (a b:Sta) (ws:List Wat):List Int×(List Int×Int):=if 256<ws.length then ([],([],6)) else if StaOk a∧StaOk b then (plcs (upB a b) ws 0,(plcs (upB b a) ws 0,0)) else ([],([],2))
structure WsW (ws:List Wat):Prop where
  fr:∀w∈ws,FrW w.2
theorem watch_in_val (n:Nat) {s:Sta} (hw:StaW s) {w:Wat} (hf:FrW w.2):watch_in_1 (n+26) w s=some (ringsB s w):=by
  rw[watch_in_1_eq,watch_one n hw hf];rfl
theorem watch_rings (n:Nat) {s:Sta} (hw:StaW s) {ws:List Wat} (hf:WsW ws):watch_Rings (n+28) s ws=some (ringsV s ws):=by
  rw[watch_Rings_eq,may_val (n+12) ws [s] (by simp) (by simp[hw]),obs]
  unfold ringsV
  by_cases h:256<ws.length
  · rw[if_pos h,if_pos h];rfl
  rw[if_neg h,if_neg h]
  simp only[List.mem_cons,List.not_mem_nil,or_false,forall_eq]
  by_cases h1:StaOk s
  case neg=>rw[if_neg h1,if_neg h1];rfl
  rw[if_pos h1,if_pos h1]
  simp only[decide_true,Bool.not_true,tff]
  rw[watch_in_eq,obs,places_val (n+26) (fun y=>watch_in_1 (n+26) y.1 s) (ringsB s) ws (by omega) (fun x hx=>watch_in_val n hw (hf.fr x hx)),obs]
theorem watch_t1 (m n:Nat) {a b:Sta} (ha:StaW a) (hb:StaW b) {w:Wat} (hf:FrW w.2):watch_Turned_1 (m+1) w (fun y=>watch_in_1 (n+26) y.1 b) (fun y=>watch_in_1 (n+26) y.1 a)=some (upB a b w):=by
  rw[watch_Turned_1_eq]
  simp only[watch_in_val n ha hf,watch_in_val n hb hf,obs]
  unfold upB
  cases ringsB b w<;>rfl
theorem watch_t2 (m n:Nat) {a b:Sta} (ha:StaW a) (hb:StaW b) {w:Wat} (hf:FrW w.2):watch_Turned_2 (m+1) w (fun y=>watch_in_1 (n+26) y.1 a) (fun y=>watch_in_1 (n+26) y.1 b)=some (upB b a w):=by
  rw[watch_Turned_2_eq]
  simp only[watch_in_val n ha hf,watch_in_val n hb hf,obs]
  unfold upB
  cases ringsB a w<;>rfl
theorem watch_turned (n:Nat) {a b:Sta} (ha:StaW a) (hb:StaW b) {ws:List Wat} (hf:WsW ws):watch_Turned (n+29) a b ws=some (turnV a b ws):=by
  rw[watch_Turned_eq,may_val (n+13) ws [a,b] (by simp) (by simp[ha,hb]),obs]
  unfold turnV
  by_cases h:256<ws.length
  · rw[if_pos h,if_pos h];rfl
  rw[if_neg h,if_neg h]
  simp only[List.mem_cons,List.not_mem_nil,or_false,forall_eq_or_imp,forall_eq]
  by_cases h1:StaOk a∧StaOk b
  case neg=>rw[if_neg h1,if_neg h1];rfl
  rw[if_pos h1,if_pos h1]
  simp only[decide_true,Bool.not_true,tff]
  rw[watch_in_eq,obs,watch_in_eq,obs]
  rw[places_val (n+27) (fun y=>watch_Turned_1 (n+28) y.1 (fun y=>watch_in_1 (n+27) y.1 b) (fun y=>watch_in_1 (n+27) y.1 a)) (upB a b) ws (by omega) (fun x hx=>watch_t1 (n+27) (n+1) ha hb (hf.fr x hx)),obs,
    places_val (n+27) (fun y=>watch_Turned_2 (n+28) y.1 (fun y=>watch_in_1 (n+27) y.1 a) (fun y=>watch_in_1 (n+27) y.1 b)) (upB b a) ws (by omega) (fun x hx=>watch_t2 (n+27) (n+1) ha hb (hf.fr x hx)),obs]
end Go.Proofs.YtefpnjjbopdplaaGreatDoor
namespace Go.Proofs.YtefpnjjbopdplaaGreatDoor
open Go.Flat
theorem ob {α β:Type} {o:Option α} {x:α} {f:α→Option β} {r:Option β} (h:o=some x) (k:f x=r):obind o f=r:=by rw[h];exact k
theorem tt {α:Type} {b:Bool} {x y r:α} (h:b=true) (k:x=r):tif b x y=r:=by rw[h];exact k
theorem tf {α:Type} {b:Bool} {x y r:α} (h:b=false) (k:y=r):tif b x y=r:=by rw[h];exact k
theorem atFuel {α σ:Type} {g:Nat→σ→Option α} {c:Nat} {s:σ} {r:Option α} (k:g (loopFuel-c+c) s=r) (h:c≤loopFuel):g loopFuel s=r:=by rw[Nat.sub_add_cancel h] at k;exact k
end Go.Proofs.YtefpnjjbopdplaaGreatDoor
namespace Go.Proofs.YtefpnjjbopdplaaGreatDoor
open Go.Flat
set_option linter.unusedVariables false
theorem lvl37_lives_eq (n:Nat)  : l37_lives (n+1)  =
  obind (l10_Fit n ) fun r0 =>
  obind (stt_New n r0) fun r1 =>
  tif ((!(decide (r1.2=(0:Int))))) (
  some false) (
  obind (write_All n r1.1 ((((97:UInt8)::[]),[])::[]) (((2:Int),((1:Int),((0:Int),false)))::(((4:Int),((5:Int),((0:Int),false)))::[]))) fun r2 =>
  tif ((!(decide (r2.2.1=(2:Int))))) (
  some false) (
  tif ((!(decide (r2.2.2=(0:Int))))) (
  some false) (
  obind (l37_rate n (2000:Int) (1:Int)) fun r3 =>
  obind (l37_rate n (2001:Int) (1:Int)) fun r4 =>
  obind (l37_rate n (1:Int) (3:Int)) fun r5 =>
  obind (watch_One n r2.1 ((((((97:UInt8)::[]),[])::[]),((1:Int),((0:Int),(10:Int)))),r3)) fun r6 =>
  obind (watch_One n r2.1 ((((((97:UInt8)::[]),[])::[]),((1:Int),((0:Int),(10:Int)))),r4)) fun r7 =>
  obind (watch_One n r1.1 ((((((97:UInt8)::[]),[])::[]),((1:Int),((0:Int),(10:Int)))),r3)) fun r8 =>
  obind (l37_rate n (2:Int) (4:Int)) fun r9 =>
  obind (watch_One n r2.1 ((((((97:UInt8)::[]),[])::[]),((1:Int),((0:Int),(10:Int)))),r9)) fun r10 =>
  obind (watch_Rings n r2.1 (((((((97:UInt8)::[]),[])::[]),((1:Int),((0:Int),(10:Int)))),r3)::(((((((97:UInt8)::[]),[])::[]),((1:Int),((0:Int),(10:Int)))),r4)::(((((((97:UInt8)::[]),[])::[]),((1:Int),((0:Int),(10:Int)))),r5)::[])))) fun r11 =>
  obind (watch_Turned n r1.1 r2.1 (((((((97:UInt8)::[]),[])::[]),((1:Int),((0:Int),(10:Int)))),r3)::(((((((97:UInt8)::[]),[])::[]),((1:Int),((0:Int),(10:Int)))),r4)::(((((((97:UInt8)::[]),[])::[]),((1:Int),((0:Int),(10:Int)))),r5)::[])))) fun r12 =>
  obind (watch_Turned n r2.1 r1.1 (((((((97:UInt8)::[]),[])::[]),((1:Int),((0:Int),(10:Int)))),r4)::(((((((97:UInt8)::[]),[])::[]),((1:Int),((0:Int),(10:Int)))),r5)::[]))) fun r13 =>
  tif (r6.1) (
  tif ((decide (r6.2=(0:Int)))) (
  tif ((!r7.1)) (
  tif ((decide (r7.2=(0:Int)))) (
  tif ((decide (r8.2=(12:Int)))) (
  tif ((decide (r10.2=(2:Int)))) (
  obind (r06_Same n r11.1 ((0:Int)::((2:Int)::[]))) fun r14 =>
  tif (r14) (
  tif ((decide (r11.2=(0:Int)))) (
  obind (r06_Same n r12.1 ((0:Int)::((2:Int)::[]))) fun r15 =>
  tif (r15) (
  tif ((decide ((((List.length r12.2.1):Nat):Int)=(0:Int)))) (
  tif ((decide (r12.2.2=(0:Int)))) (
  tif ((decide ((((List.length r13.1):Nat):Int)=(0:Int)))) (
  obind (r06_Same n r13.2.1 ((1:Int)::[])) fun r16 =>
  tif (r16) (
  some (decide (r13.2.2=(0:Int)))) (
  some false)) (
  some false)) (
  some false)) (
  some false)) (
  some false)) (
  some false)) (
  some false)) (
  some false)) (
  some false)) (
  some false)) (
  some false)) (
  some false)) (
  some false)))):=by kernel_rfl
abbrev lvl37_lives_S0:TState:=((Int.ofNat 20,(Int.ofNat 10,Int.ofNat 20,Int.ofNat 60),(Int.ofNat 4,Int.ofNat 5,Int.ofNat 6),Int.ofNat 3,Int.ofNat 9),Int.ofNat 0,Int.negSucc 0,[([([UInt8.ofNat 97],[])],Int.ofNat 4,(Int.ofNat 0,Int.ofNat 0,[(Int.ofNat 2,Int.ofNat 1,Int.ofNat 0,false),(Int.ofNat 4,Int.ofNat 5,Int.ofNat 0,false)]),([(Int.ofNat 0,Int.ofNat 0,(Int.ofNat 0,Int.ofNat 0,Int.ofNat 0,false),(Int.ofNat 0,Int.ofNat 0,Int.ofNat 0,false),(Int.ofNat 0,Int.ofNat 0),Int.ofNat 0,Int.ofNat 0,Int.ofNat 0),(Int.ofNat 0,Int.ofNat 0,(Int.ofNat 0,Int.ofNat 0,Int.ofNat 0,false),(Int.ofNat 0,Int.ofNat 0,Int.ofNat 0,false),(Int.ofNat 0,Int.ofNat 0),Int.ofNat 0,Int.ofNat 0,Int.ofNat 0),(Int.ofNat 0,Int.ofNat 0,(Int.ofNat 0,Int.ofNat 0,Int.ofNat 0,false),(Int.ofNat 0,Int.ofNat 0,Int.ofNat 0,false),(Int.ofNat 0,Int.ofNat 0),Int.ofNat 0,Int.ofNat 0,Int.ofNat 0),(Int.ofNat 0,Int.ofNat 0,(Int.ofNat 0,Int.ofNat 0,Int.ofNat 0,false),(Int.ofNat 0,Int.ofNat 0,Int.ofNat 0,false),(Int.ofNat 0,Int.ofNat 0),Int.ofNat 0,Int.ofNat 0,Int.ofNat 0)],[(Int.ofNat 0,Int.ofNat 0,(Int.ofNat 0,Int.ofNat 0,Int.ofNat 0,false),(Int.ofNat 0,Int.ofNat 0,Int.ofNat 0,false),(Int.ofNat 0,Int.ofNat 0),Int.ofNat 0,Int.ofNat 0,Int.ofNat 0),(Int.ofNat 0,Int.ofNat 0,(Int.ofNat 0,Int.ofNat 0,Int.ofNat 0,false),(Int.ofNat 0,Int.ofNat 0,Int.ofNat 0,false),(Int.ofNat 0,Int.ofNat 0),Int.ofNat 0,Int.ofNat 0,Int.ofNat 0),(Int.ofNat 0,Int.ofNat 0,(Int.ofNat 0,Int.ofNat 0,Int.ofNat 0,false),(Int.ofNat 0,Int.ofNat 0,Int.ofNat 0,false),(Int.ofNat 0,Int.ofNat 0),Int.ofNat 0,Int.ofNat 0,Int.ofNat 0),(Int.ofNat 0,Int.ofNat 0,(Int.ofNat 0,Int.ofNat 0,Int.ofNat 0,false),(Int.ofNat 0,Int.ofNat 0,Int.ofNat 0,false),(Int.ofNat 0,Int.ofNat 0),Int.ofNat 0,Int.ofNat 0,Int.ofNat 0),(Int.ofNat 0,Int.ofNat 0,(Int.ofNat 0,Int.ofNat 0,Int.ofNat 0,false),(Int.ofNat 0,Int.ofNat 0,Int.ofNat 0,false),(Int.ofNat 0,Int.ofNat 0),Int.ofNat 0,Int.ofNat 0,Int.ofNat 0)],[(Int.ofNat 0,Int.ofNat 0,(Int.ofNat 0,Int.ofNat 0,Int.ofNat 0,false),(Int.ofNat 0,Int.ofNat 0,Int.ofNat 0,false),(Int.ofNat 0,Int.ofNat 0),Int.ofNat 0,Int.ofNat 0,Int.ofNat 0),(Int.ofNat 0,Int.ofNat 0,(Int.ofNat 0,Int.ofNat 0,Int.ofNat 0,false),(Int.ofNat 0,Int.ofNat 0,Int.ofNat 0,false),(Int.ofNat 0,Int.ofNat 0),Int.ofNat 0,Int.ofNat 0,Int.ofNat 0),(Int.ofNat 0,Int.ofNat 0,(Int.ofNat 0,Int.ofNat 0,Int.ofNat 0,false),(Int.ofNat 0,Int.ofNat 0,Int.ofNat 0,false),(Int.ofNat 0,Int.ofNat 0),Int.ofNat 0,Int.ofNat 0,Int.ofNat 0),(Int.ofNat 0,Int.ofNat 0,(Int.ofNat 0,Int.ofNat 0,Int.ofNat 0,false),(Int.ofNat 0,Int.ofNat 0,Int.ofNat 0,false),(Int.ofNat 0,Int.ofNat 0),Int.ofNat 0,Int.ofNat 0,Int.ofNat 0),(Int.ofNat 0,Int.ofNat 0,(Int.ofNat 0,Int.ofNat 0,Int.ofNat 0,false),(Int.ofNat 0,Int.ofNat 0,Int.ofNat 0,false),(Int.ofNat 0,Int.ofNat 0),Int.ofNat 0,Int.ofNat 0,Int.ofNat 0),(Int.ofNat 0,Int.ofNat 0,(Int.ofNat 0,Int.ofNat 0,Int.ofNat 0,false),(Int.ofNat 0,Int.ofNat 0,Int.ofNat 0,false),(Int.ofNat 0,Int.ofNat 0),Int.ofNat 0,Int.ofNat 0,Int.ofNat 0)]),Int.ofNat 0,Int.ofNat 2,(Int.ofNat 2,Int.ofNat 1,Int.ofNat 0,false),(Int.ofNat 4,Int.ofNat 5,Int.ofNat 0,false),(Int.ofNat 0,Int.ofNat 4),Int.ofNat 0,Int.ofNat 0,Int.ofNat 2),([],Int.ofNat 0,(Int.ofNat 0,Int.ofNat 0,[]),([],[],[]),Int.ofNat 0,Int.ofNat 0,(Int.ofNat 0,Int.ofNat 0,Int.ofNat 0,false),(Int.ofNat 0,Int.ofNat 0,Int.ofNat 0,false),(Int.ofNat 0,Int.ofNat 0),Int.ofNat 0,Int.ofNat 0,Int.ofNat 0),([],Int.ofNat 0,(Int.ofNat 0,Int.ofNat 0,[]),([],[],[]),Int.ofNat 0,Int.ofNat 0,(Int.ofNat 0,Int.ofNat 0,Int.ofNat 0,false),(Int.ofNat 0,Int.ofNat 0,Int.ofNat 0,false),(Int.ofNat 0,Int.ofNat 0),Int.ofNat 0,Int.ofNat 0,Int.ofNat 0)])
abbrev lvl37_lives_S1:TState:=((20,((10,(20,60)),((4,(5,6)),(3,9)))),(0,((-1),[([([97],[])],(4,((0,(0,[(2,(1,(0,false))),(4,(5,(0,false)))])),(([(0,(0,((0,(0,(0,false))),((0,(0,(0,false))),((0,0),(0,(0,0))))))),(0,(0,((0,(0,(0,false))),((0,(0,(0,false))),((0,0),(0,(0,0))))))),(0,(0,((0,(0,(0,false))),((0,(0,(0,false))),((0,0),(0,(0,0))))))),(0,(0,((0,(0,(0,false))),((0,(0,(0,false))),((0,0),(0,(0,0)))))))],([(0,(0,((0,(0,(0,false))),((0,(0,(0,false))),((0,0),(0,(0,0))))))),(0,(0,((0,(0,(0,false))),((0,(0,(0,false))),((0,0),(0,(0,0))))))),(0,(0,((0,(0,(0,false))),((0,(0,(0,false))),((0,0),(0,(0,0))))))),(0,(0,((0,(0,(0,false))),((0,(0,(0,false))),((0,0),(0,(0,0))))))),(0,(0,((0,(0,(0,false))),((0,(0,(0,false))),((0,0),(0,(0,0)))))))],[(0,(0,((0,(0,(0,false))),((0,(0,(0,false))),((0,0),(0,(0,0))))))),(0,(0,((0,(0,(0,false))),((0,(0,(0,false))),((0,0),(0,(0,0))))))),(0,(0,((0,(0,(0,false))),((0,(0,(0,false))),((0,0),(0,(0,0))))))),(0,(0,((0,(0,(0,false))),((0,(0,(0,false))),((0,0),(0,(0,0))))))),(0,(0,((0,(0,(0,false))),((0,(0,(0,false))),((0,0),(0,(0,0))))))),(0,(0,((0,(0,(0,false))),((0,(0,(0,false))),((0,0),(0,(0,0)))))))])),(0,(2,((2,(1,(0,false))),((4,(5,(0,false))),((0,4),(0,(0,2))))))))))),([],(0,((0,(0,[])),(([],([],[])),(0,(0,((0,(0,(0,false))),((0,(0,(0,false))),((0,0),(0,(0,0))))))))))),([],(0,((0,(0,[])),(([],([],[])),(0,(0,((0,(0,(0,false))),((0,(0,(0,false))),((0,0),(0,(0,0)))))))))))])))
abbrev lvl37_lives_S2:TState:=((Int.ofNat 20,(Int.ofNat 10,Int.ofNat 20,Int.ofNat 60),(Int.ofNat 4,Int.ofNat 5,Int.ofNat 6),Int.ofNat 3,Int.ofNat 9),Int.ofNat 0,Int.negSucc 0,[([],Int.ofNat 0,(Int.ofNat 0,Int.ofNat 0,[]),([],[],[]),Int.ofNat 0,Int.ofNat 0,(Int.ofNat 0,Int.ofNat 0,Int.ofNat 0,false),(Int.ofNat 0,Int.ofNat 0,Int.ofNat 0,false),(Int.ofNat 0,Int.ofNat 0),Int.ofNat 0,Int.ofNat 0,Int.ofNat 0),([],Int.ofNat 0,(Int.ofNat 0,Int.ofNat 0,[]),([],[],[]),Int.ofNat 0,Int.ofNat 0,(Int.ofNat 0,Int.ofNat 0,Int.ofNat 0,false),(Int.ofNat 0,Int.ofNat 0,Int.ofNat 0,false),(Int.ofNat 0,Int.ofNat 0),Int.ofNat 0,Int.ofNat 0,Int.ofNat 0),([],Int.ofNat 0,(Int.ofNat 0,Int.ofNat 0,[]),([],[],[]),Int.ofNat 0,Int.ofNat 0,(Int.ofNat 0,Int.ofNat 0,Int.ofNat 0,false),(Int.ofNat 0,Int.ofNat 0,Int.ofNat 0,false),(Int.ofNat 0,Int.ofNat 0),Int.ofNat 0,Int.ofNat 0,Int.ofNat 0)])
theorem lvl37_lives_0 (n:Nat):l10_Fit (n+39)=some (20,((10,(20,60)),((4,(5,6)),(3,9)))):=by kernel_rfl
theorem lvl37_lives_1 (n:Nat):stt_New (n+39) (20,((10,(20,60)),((4,(5,6)),(3,9))))=some (((20,((10,(20,60)),((4,(5,6)),(3,9)))),(0,((-1),[([],(0,((0,(0,[])),(([],([],[])),(0,(0,((0,(0,(0,false))),((0,(0,(0,false))),((0,0),(0,(0,0))))))))))),([],(0,((0,(0,[])),(([],([],[])),(0,(0,((0,(0,(0,false))),((0,(0,(0,false))),((0,0),(0,(0,0))))))))))),([],(0,((0,(0,[])),(([],([],[])),(0,(0,((0,(0,(0,false))),((0,(0,(0,false))),((0,0),(0,(0,0)))))))))))]))),0):=by kernel_rfl
theorem lvl37_lives_2 (n:Nat):write_All (n+39) ((20,((10,(20,60)),((4,(5,6)),(3,9)))),(0,((-1),[([],(0,((0,(0,[])),(([],([],[])),(0,(0,((0,(0,(0,false))),((0,(0,(0,false))),((0,0),(0,(0,0))))))))))),([],(0,((0,(0,[])),(([],([],[])),(0,(0,((0,(0,(0,false))),((0,(0,(0,false))),((0,0),(0,(0,0))))))))))),([],(0,((0,(0,[])),(([],([],[])),(0,(0,((0,(0,(0,false))),((0,(0,(0,false))),((0,0),(0,(0,0)))))))))))]))) [([97],[])] [(2,(1,(0,false))),(4,(5,(0,false)))]=some (lvl37_lives_S1,(2,0)):=by kernel_rfl
theorem lvl37_lives_3 (n:Nat):l37_rate (n+39) (2000) (1)=some ((0,2000),(0,1)):=by kernel_rfl
theorem lvl37_lives_4 (n:Nat):l37_rate (n+39) (2001) (1)=some ((0,2001),(0,1)):=by kernel_rfl
theorem lvl37_lives_5 (n:Nat):l37_rate (n+39) (1) (3)=some ((0,1),(0,3)):=by kernel_rfl
theorem lvl37_lives_6 (n:Nat):stt_Check (n+16) lvl37_lives_S1=some 0:=by kernel_rfl
theorem lvl37_lives_7 (n:Nat):ratio_Check (n+8) ((0,2000),(0,1))=some 0:=by kernel_rfl
theorem lvl37_lives_8 (n:Nat):query_Do (n+25) lvl37_lives_S1 ([([97],[])],(1,(0,10)))=some ((1,((2,((2,(1,(0,false))),((4,(5,(0,false))),((0,4),(0,(0,2)))))),(((0,2000),(0,1)),0))),0):=by kernel_rfl
theorem lvl37_lives_9 (n:Nat):ratio_Less (n+9) ((0,2000),(0,1)) ((0,2000),(0,1))=some (false,0):=by kernel_rfl
theorem lvl37_lives_10 (n:Nat):watch_One (n+39) lvl37_lives_S1 (([([97],[])],(1,(0,10))),((0,2000),(0,1)))=some (true,0):=by
  rw[watch_One_eq]
  refine ob (lvl37_lives_6 (n+22)) ?_
  refine tf (by kernel_rfl) ?_
  refine ob (lvl37_lives_7 (n+30)) ?_
  refine tf (by kernel_rfl) ?_
  refine ob (lvl37_lives_8 (n+13)) ?_
  refine tt (by kernel_rfl) ?_
  refine tf (by kernel_rfl) ?_
  refine ob (lvl37_lives_9 (n+29)) ?_
  refine tt (by kernel_rfl) ?_
  kernel_rfl
theorem lvl37_lives_11 (n:Nat):ratio_Check (n+8) ((0,2001),(0,1))=some 0:=by kernel_rfl
theorem lvl37_lives_12 (n:Nat):ratio_Less (n+9) ((0,2000),(0,1)) ((0,2001),(0,1))=some (true,0):=by kernel_rfl
theorem lvl37_lives_13 (n:Nat):watch_One (n+39) lvl37_lives_S1 (([([97],[])],(1,(0,10))),((0,2001),(0,1)))=some (false,0):=by
  rw[watch_One_eq]
  refine ob (lvl37_lives_6 (n+22)) ?_
  refine tf (by kernel_rfl) ?_
  refine ob (lvl37_lives_11 (n+30)) ?_
  refine tf (by kernel_rfl) ?_
  refine ob (lvl37_lives_8 (n+13)) ?_
  refine tt (by kernel_rfl) ?_
  refine tf (by kernel_rfl) ?_
  refine ob (lvl37_lives_12 (n+29)) ?_
  refine tt (by kernel_rfl) ?_
  kernel_rfl
theorem lvl37_lives_14 (n:Nat):stt_Check (n+16) ((20,((10,(20,60)),((4,(5,6)),(3,9)))),(0,((-1),[([],(0,((0,(0,[])),(([],([],[])),(0,(0,((0,(0,(0,false))),((0,(0,(0,false))),((0,0),(0,(0,0))))))))))),([],(0,((0,(0,[])),(([],([],[])),(0,(0,((0,(0,(0,false))),((0,(0,(0,false))),((0,0),(0,(0,0))))))))))),([],(0,((0,(0,[])),(([],([],[])),(0,(0,((0,(0,(0,false))),((0,(0,(0,false))),((0,0),(0,(0,0)))))))))))])))=some 0:=by kernel_rfl
theorem lvl37_lives_15 (n:Nat):query_Do (n+25) ((20,((10,(20,60)),((4,(5,6)),(3,9)))),(0,((-1),[([],(0,((0,(0,[])),(([],([],[])),(0,(0,((0,(0,(0,false))),((0,(0,(0,false))),((0,0),(0,(0,0))))))))))),([],(0,((0,(0,[])),(([],([],[])),(0,(0,((0,(0,(0,false))),((0,(0,(0,false))),((0,0),(0,(0,0))))))))))),([],(0,((0,(0,[])),(([],([],[])),(0,(0,((0,(0,(0,false))),((0,(0,(0,false))),((0,0),(0,(0,0)))))))))))]))) ([([97],[])],(1,(0,10)))=some ((1,((0,((0,(0,(0,false))),((0,(0,(0,false))),((0,0),(0,(0,0)))))),(((0,0),(0,0)),12))),0):=by kernel_rfl
theorem lvl37_lives_16 (n:Nat):watch_One (n+39) ((20,((10,(20,60)),((4,(5,6)),(3,9)))),(0,((-1),[([],(0,((0,(0,[])),(([],([],[])),(0,(0,((0,(0,(0,false))),((0,(0,(0,false))),((0,0),(0,(0,0))))))))))),([],(0,((0,(0,[])),(([],([],[])),(0,(0,((0,(0,(0,false))),((0,(0,(0,false))),((0,0),(0,(0,0))))))))))),([],(0,((0,(0,[])),(([],([],[])),(0,(0,((0,(0,(0,false))),((0,(0,(0,false))),((0,0),(0,(0,0)))))))))))]))) (([([97],[])],(1,(0,10))),((0,2000),(0,1)))=some (false,12):=by
  rw[watch_One_eq]
  refine ob (lvl37_lives_14 (n+22)) ?_
  refine tf (by kernel_rfl) ?_
  refine ob (lvl37_lives_7 (n+30)) ?_
  refine tf (by kernel_rfl) ?_
  refine ob (lvl37_lives_15 (n+13)) ?_
  refine tt (by kernel_rfl) ?_
  refine tt (by kernel_rfl) ?_
  kernel_rfl
theorem lvl37_lives_17 (n:Nat):l37_rate (n+39) (2) (4)=some ((0,2),(0,4)):=by kernel_rfl
theorem lvl37_lives_18 (n:Nat):ratio_Check (n+8) ((0,2),(0,4))=some 2:=by kernel_rfl
theorem lvl37_lives_19 (n:Nat):watch_One (n+39) lvl37_lives_S1 (([([97],[])],(1,(0,10))),((0,2),(0,4)))=some (false,2):=by
  rw[watch_One_eq]
  refine ob (lvl37_lives_6 (n+22)) ?_
  refine tf (by kernel_rfl) ?_
  refine ob (lvl37_lives_18 (n+30)) ?_
  refine tt (by kernel_rfl) ?_
  kernel_rfl
theorem lvl37_lives_20 (n f:Nat):watch_watches_may_l4 (n+37) (f+1) ([lvl37_lives_S1],(1,(1,())))=some (.inl ()):=by
  rw[watch_watches_may_l4_eq]
  refine tf (by kernel_rfl) ?_
  kernel_rfl
theorem lvl37_lives_21 (n f:Nat):watch_watches_may_l4 (n+37) (f+2) ([lvl37_lives_S1],(1,(0,())))=some (.inl ()):=by
  rw[watch_watches_may_l4_eq]
  refine tt (by kernel_rfl) ?_
  refine ob (x:=lvl37_lives_S1) (by kernel_rfl) ?_
  refine ob (lvl37_lives_6 (n+21)) ?_
  refine tf (by kernel_rfl) ?_
  exact lvl37_lives_20 n f
theorem lvl37_lives_22 (n:Nat):watch_watches_may (n+38) [(([([97],[])],(1,(0,10))),((0,2000),(0,1))),(([([97],[])],(1,(0,10))),((0,2001),(0,1))),(([([97],[])],(1,(0,10))),((0,1),(0,3)))] [lvl37_lives_S1]=some 0:=by
  rw[watch_watches_may_eq]
  refine tf (by kernel_rfl) ?_
  refine ob (atFuel (h:=by unfold loopFuel;omega) (lvl37_lives_21 n (loopFuel-2))) ?_
  refine Eq.trans (selim_inl ..) ?_
  kernel_rfl
theorem lvl37_lives_23 (n:Nat):watch_in (n+38) lvl37_lives_S1=some (fun y0=>Go.Proofs.YtefpnjjbopdplaaGreatDoor.watch_in_1 (n+37) y0.fst (lvl37_lives_S0,Int.ofNat 2,Int.ofNat 0).fst):=by
  rw[watch_in_eq]
  kernel_rfl
theorem lvl37_lives_24 (n:Nat):watch_One (n+36) lvl37_lives_S1 (([([97],[])],(1,(0,10))),((0,2000),(0,1)))=some (true,0):=by
  rw[watch_One_eq]
  refine ob (lvl37_lives_6 (n+19)) ?_
  refine tf (by kernel_rfl) ?_
  refine ob (lvl37_lives_7 (n+27)) ?_
  refine tf (by kernel_rfl) ?_
  refine ob (lvl37_lives_8 (n+10)) ?_
  refine tt (by kernel_rfl) ?_
  refine tf (by kernel_rfl) ?_
  refine ob (lvl37_lives_9 (n+26)) ?_
  refine tt (by kernel_rfl) ?_
  kernel_rfl
theorem lvl37_lives_25 (n:Nat):watch_in_1 (n+37) (([([97],[])],(1,(0,10))),((0,2000),(0,1))) lvl37_lives_S1=some true:=by
  rw[watch_in_1_eq]
  refine ob (lvl37_lives_24 n) ?_
  kernel_rfl
theorem lvl37_lives_26 (n:Nat):watch_One (n+36) lvl37_lives_S1 (([([97],[])],(1,(0,10))),((0,2001),(0,1)))=some (false,0):=by
  rw[watch_One_eq]
  refine ob (lvl37_lives_6 (n+19)) ?_
  refine tf (by kernel_rfl) ?_
  refine ob (lvl37_lives_11 (n+27)) ?_
  refine tf (by kernel_rfl) ?_
  refine ob (lvl37_lives_8 (n+10)) ?_
  refine tt (by kernel_rfl) ?_
  refine tf (by kernel_rfl) ?_
  refine ob (lvl37_lives_12 (n+26)) ?_
  refine tt (by kernel_rfl) ?_
  kernel_rfl
theorem lvl37_lives_27 (n:Nat):watch_in_1 (n+37) (([([97],[])],(1,(0,10))),((0,2001),(0,1))) lvl37_lives_S1=some false:=by
  rw[watch_in_1_eq]
  refine ob (lvl37_lives_26 n) ?_
  kernel_rfl
theorem lvl37_lives_28 (n:Nat):ratio_Check (n+8) ((0,1),(0,3))=some 0:=by kernel_rfl
theorem lvl37_lives_29 (n:Nat):ratio_Less (n+9) ((0,2000),(0,1)) ((0,1),(0,3))=some (false,0):=by kernel_rfl
theorem lvl37_lives_30 (n:Nat):watch_One (n+36) lvl37_lives_S1 (([([97],[])],(1,(0,10))),((0,1),(0,3)))=some (true,0):=by
  rw[watch_One_eq]
  refine ob (lvl37_lives_6 (n+19)) ?_
  refine tf (by kernel_rfl) ?_
  refine ob (lvl37_lives_28 (n+27)) ?_
  refine tf (by kernel_rfl) ?_
  refine ob (lvl37_lives_8 (n+10)) ?_
  refine tt (by kernel_rfl) ?_
  refine tf (by kernel_rfl) ?_
  refine ob (lvl37_lives_29 (n+26)) ?_
  refine tt (by kernel_rfl) ?_
  kernel_rfl
theorem lvl37_lives_31 (n:Nat):watch_in_1 (n+37) (([([97],[])],(1,(0,10))),((0,1),(0,3))) lvl37_lives_S1=some true:=by
  rw[watch_in_1_eq]
  refine ob (lvl37_lives_30 n) ?_
  kernel_rfl
theorem lvl37_lives_32 (n f:Nat):watch_watches_places_l3 (n+37) (f+1) ((fun y0=>Go.Proofs.YtefpnjjbopdplaaGreatDoor.watch_in_1 (n+37) y0.fst (lvl37_lives_S0,Int.ofNat 2,Int.ofNat 0).fst),([0,2],([(([([97],[])],(1,(0,10))),((0,2000),(0,1))),(([([97],[])],(1,(0,10))),((0,2001),(0,1))),(([([97],[])],(1,(0,10))),((0,1),(0,3)))],(3,(3,())))))=some (.inl ([0,2],())):=by
  rw[watch_watches_places_l3_eq]
  refine tf (by kernel_rfl) ?_
  kernel_rfl
theorem lvl37_lives_33 (n f:Nat):watch_watches_places_l3 (n+37) (f+2) ((fun y0=>Go.Proofs.YtefpnjjbopdplaaGreatDoor.watch_in_1 (n+37) y0.fst (lvl37_lives_S0,Int.ofNat 2,Int.ofNat 0).fst),([0],([(([([97],[])],(1,(0,10))),((0,2000),(0,1))),(([([97],[])],(1,(0,10))),((0,2001),(0,1))),(([([97],[])],(1,(0,10))),((0,1),(0,3)))],(3,(2,())))))=some (.inl ([0,2],())):=by
  rw[watch_watches_places_l3_eq]
  refine tt (by kernel_rfl) ?_
  refine ob (x:=(([([97],[])],(1,(0,10))),((0,1),(0,3)))) (by kernel_rfl) ?_
  refine ob (lvl37_lives_31 n) ?_
  refine tt (by kernel_rfl) ?_
  refine tt (by kernel_rfl) ?_
  exact lvl37_lives_32 n f
theorem lvl37_lives_34 (n f:Nat):watch_watches_places_l3 (n+37) (f+3) ((fun y0=>Go.Proofs.YtefpnjjbopdplaaGreatDoor.watch_in_1 (n+37) y0.fst (lvl37_lives_S0,Int.ofNat 2,Int.ofNat 0).fst),([0],([(([([97],[])],(1,(0,10))),((0,2000),(0,1))),(([([97],[])],(1,(0,10))),((0,2001),(0,1))),(([([97],[])],(1,(0,10))),((0,1),(0,3)))],(3,(1,())))))=some (.inl ([0,2],())):=by
  rw[watch_watches_places_l3_eq]
  refine tt (by kernel_rfl) ?_
  refine ob (x:=(([([97],[])],(1,(0,10))),((0,2001),(0,1)))) (by kernel_rfl) ?_
  refine ob (lvl37_lives_27 n) ?_
  refine tf (by kernel_rfl) ?_
  exact lvl37_lives_33 n f
theorem lvl37_lives_35 (n f:Nat):watch_watches_places_l3 (n+37) (f+4) ((fun y0=>Go.Proofs.YtefpnjjbopdplaaGreatDoor.watch_in_1 (n+37) y0.fst (lvl37_lives_S0,Int.ofNat 2,Int.ofNat 0).fst),([],([(([([97],[])],(1,(0,10))),((0,2000),(0,1))),(([([97],[])],(1,(0,10))),((0,2001),(0,1))),(([([97],[])],(1,(0,10))),((0,1),(0,3)))],(3,(0,())))))=some (.inl ([0,2],())):=by
  rw[watch_watches_places_l3_eq]
  refine tt (by kernel_rfl) ?_
  refine ob (x:=(([([97],[])],(1,(0,10))),((0,2000),(0,1)))) (by kernel_rfl) ?_
  refine ob (lvl37_lives_25 n) ?_
  refine tt (by kernel_rfl) ?_
  refine tt (by kernel_rfl) ?_
  exact lvl37_lives_34 n f
theorem lvl37_lives_36 (n:Nat):watch_watches_places (n+38) [(([([97],[])],(1,(0,10))),((0,2000),(0,1))),(([([97],[])],(1,(0,10))),((0,2001),(0,1))),(([([97],[])],(1,(0,10))),((0,1),(0,3)))] (fun y0=>Go.Proofs.YtefpnjjbopdplaaGreatDoor.watch_in_1 (n+37) y0.fst (lvl37_lives_S0,Int.ofNat 2,Int.ofNat 0).fst)=some [0,2]:=by
  rw[watch_watches_places_eq]
  refine ob (atFuel (h:=by unfold loopFuel;omega) (lvl37_lives_35 n (loopFuel-4))) ?_
  refine Eq.trans (selim_inl ..) ?_
  kernel_rfl
theorem lvl37_lives_37 (n:Nat):watch_Rings (n+39) lvl37_lives_S1 [(([([97],[])],(1,(0,10))),((0,2000),(0,1))),(([([97],[])],(1,(0,10))),((0,2001),(0,1))),(([([97],[])],(1,(0,10))),((0,1),(0,3)))]=some ([0,2],0):=by
  rw[watch_Rings_eq]
  refine ob (lvl37_lives_22 n) ?_
  refine tf (by kernel_rfl) ?_
  refine ob (lvl37_lives_23 n) ?_
  refine ob (lvl37_lives_36 n) ?_
  kernel_rfl
theorem lvl37_lives_38 (n f:Nat):watch_watches_may_l4 (n+37) (f+1) ([((20,((10,(20,60)),((4,(5,6)),(3,9)))),(0,((-1),[([],(0,((0,(0,[])),(([],([],[])),(0,(0,((0,(0,(0,false))),((0,(0,(0,false))),((0,0),(0,(0,0))))))))))),([],(0,((0,(0,[])),(([],([],[])),(0,(0,((0,(0,(0,false))),((0,(0,(0,false))),((0,0),(0,(0,0))))))))))),([],(0,((0,(0,[])),(([],([],[])),(0,(0,((0,(0,(0,false))),((0,(0,(0,false))),((0,0),(0,(0,0)))))))))))]))),lvl37_lives_S1],(2,(2,())))=some (.inl ()):=by
  rw[watch_watches_may_l4_eq]
  refine tf (by kernel_rfl) ?_
  kernel_rfl
theorem lvl37_lives_39 (n f:Nat):watch_watches_may_l4 (n+37) (f+2) ([((20,((10,(20,60)),((4,(5,6)),(3,9)))),(0,((-1),[([],(0,((0,(0,[])),(([],([],[])),(0,(0,((0,(0,(0,false))),((0,(0,(0,false))),((0,0),(0,(0,0))))))))))),([],(0,((0,(0,[])),(([],([],[])),(0,(0,((0,(0,(0,false))),((0,(0,(0,false))),((0,0),(0,(0,0))))))))))),([],(0,((0,(0,[])),(([],([],[])),(0,(0,((0,(0,(0,false))),((0,(0,(0,false))),((0,0),(0,(0,0)))))))))))]))),lvl37_lives_S1],(2,(1,())))=some (.inl ()):=by
  rw[watch_watches_may_l4_eq]
  refine tt (by kernel_rfl) ?_
  refine ob (x:=lvl37_lives_S1) (by kernel_rfl) ?_
  refine ob (lvl37_lives_6 (n+21)) ?_
  refine tf (by kernel_rfl) ?_
  exact lvl37_lives_38 n f
theorem lvl37_lives_40 (n f:Nat):watch_watches_may_l4 (n+37) (f+3) ([((20,((10,(20,60)),((4,(5,6)),(3,9)))),(0,((-1),[([],(0,((0,(0,[])),(([],([],[])),(0,(0,((0,(0,(0,false))),((0,(0,(0,false))),((0,0),(0,(0,0))))))))))),([],(0,((0,(0,[])),(([],([],[])),(0,(0,((0,(0,(0,false))),((0,(0,(0,false))),((0,0),(0,(0,0))))))))))),([],(0,((0,(0,[])),(([],([],[])),(0,(0,((0,(0,(0,false))),((0,(0,(0,false))),((0,0),(0,(0,0)))))))))))]))),lvl37_lives_S1],(2,(0,())))=some (.inl ()):=by
  rw[watch_watches_may_l4_eq]
  refine tt (by kernel_rfl) ?_
  refine ob (x:=((20,((10,(20,60)),((4,(5,6)),(3,9)))),(0,((-1),[([],(0,((0,(0,[])),(([],([],[])),(0,(0,((0,(0,(0,false))),((0,(0,(0,false))),((0,0),(0,(0,0))))))))))),([],(0,((0,(0,[])),(([],([],[])),(0,(0,((0,(0,(0,false))),((0,(0,(0,false))),((0,0),(0,(0,0))))))))))),([],(0,((0,(0,[])),(([],([],[])),(0,(0,((0,(0,(0,false))),((0,(0,(0,false))),((0,0),(0,(0,0)))))))))))])))) (by kernel_rfl) ?_
  refine ob (lvl37_lives_14 (n+21)) ?_
  refine tf (by kernel_rfl) ?_
  exact lvl37_lives_39 n f
theorem lvl37_lives_41 (n:Nat):watch_watches_may (n+38) [(([([97],[])],(1,(0,10))),((0,2000),(0,1))),(([([97],[])],(1,(0,10))),((0,2001),(0,1))),(([([97],[])],(1,(0,10))),((0,1),(0,3)))] [((20,((10,(20,60)),((4,(5,6)),(3,9)))),(0,((-1),[([],(0,((0,(0,[])),(([],([],[])),(0,(0,((0,(0,(0,false))),((0,(0,(0,false))),((0,0),(0,(0,0))))))))))),([],(0,((0,(0,[])),(([],([],[])),(0,(0,((0,(0,(0,false))),((0,(0,(0,false))),((0,0),(0,(0,0))))))))))),([],(0,((0,(0,[])),(([],([],[])),(0,(0,((0,(0,(0,false))),((0,(0,(0,false))),((0,0),(0,(0,0)))))))))))]))),lvl37_lives_S1]=some 0:=by
  rw[watch_watches_may_eq]
  refine tf (by kernel_rfl) ?_
  refine ob (atFuel (h:=by unfold loopFuel;omega) (lvl37_lives_40 n (loopFuel-3))) ?_
  refine Eq.trans (selim_inl ..) ?_
  kernel_rfl
theorem lvl37_lives_42 (n:Nat):watch_in (n+38) ((20,((10,(20,60)),((4,(5,6)),(3,9)))),(0,((-1),[([],(0,((0,(0,[])),(([],([],[])),(0,(0,((0,(0,(0,false))),((0,(0,(0,false))),((0,0),(0,(0,0))))))))))),([],(0,((0,(0,[])),(([],([],[])),(0,(0,((0,(0,(0,false))),((0,(0,(0,false))),((0,0),(0,(0,0))))))))))),([],(0,((0,(0,[])),(([],([],[])),(0,(0,((0,(0,(0,false))),((0,(0,(0,false))),((0,0),(0,(0,0)))))))))))])))=some (fun y0=>Go.Proofs.YtefpnjjbopdplaaGreatDoor.watch_in_1 (n+37) y0.fst (lvl37_lives_S2,Int.ofNat 0).fst):=by
  rw[watch_in_eq]
  kernel_rfl
theorem lvl37_lives_43 (n:Nat):watch_One (n+36) ((20,((10,(20,60)),((4,(5,6)),(3,9)))),(0,((-1),[([],(0,((0,(0,[])),(([],([],[])),(0,(0,((0,(0,(0,false))),((0,(0,(0,false))),((0,0),(0,(0,0))))))))))),([],(0,((0,(0,[])),(([],([],[])),(0,(0,((0,(0,(0,false))),((0,(0,(0,false))),((0,0),(0,(0,0))))))))))),([],(0,((0,(0,[])),(([],([],[])),(0,(0,((0,(0,(0,false))),((0,(0,(0,false))),((0,0),(0,(0,0)))))))))))]))) (([([97],[])],(1,(0,10))),((0,2000),(0,1)))=some (false,12):=by
  rw[watch_One_eq]
  refine ob (lvl37_lives_14 (n+19)) ?_
  refine tf (by kernel_rfl) ?_
  refine ob (lvl37_lives_7 (n+27)) ?_
  refine tf (by kernel_rfl) ?_
  refine ob (lvl37_lives_15 (n+10)) ?_
  refine tt (by kernel_rfl) ?_
  refine tt (by kernel_rfl) ?_
  kernel_rfl
theorem lvl37_lives_44 (n:Nat):watch_in_1 (n+37) (([([97],[])],(1,(0,10))),((0,2000),(0,1))) ((20,((10,(20,60)),((4,(5,6)),(3,9)))),(0,((-1),[([],(0,((0,(0,[])),(([],([],[])),(0,(0,((0,(0,(0,false))),((0,(0,(0,false))),((0,0),(0,(0,0))))))))))),([],(0,((0,(0,[])),(([],([],[])),(0,(0,((0,(0,(0,false))),((0,(0,(0,false))),((0,0),(0,(0,0))))))))))),([],(0,((0,(0,[])),(([],([],[])),(0,(0,((0,(0,(0,false))),((0,(0,(0,false))),((0,0),(0,(0,0)))))))))))])))=some false:=by
  rw[watch_in_1_eq]
  refine ob (lvl37_lives_43 n) ?_
  kernel_rfl
theorem lvl37_lives_45 (n:Nat):watch_Turned_1 (n+38) (([([97],[])],(1,(0,10))),((0,2000),(0,1))) (fun y0=>Go.Proofs.YtefpnjjbopdplaaGreatDoor.watch_in_1 (n+37) y0.fst (lvl37_lives_S0,Int.ofNat 2,Int.ofNat 0).fst) (fun y0=>Go.Proofs.YtefpnjjbopdplaaGreatDoor.watch_in_1 (n+37) y0.fst (lvl37_lives_S2,Int.ofNat 0).fst)=some true:=by
  rw[watch_Turned_1_eq]
  refine ob (lvl37_lives_25 n) ?_
  refine tt (by kernel_rfl) ?_
  refine ob (lvl37_lives_44 n) ?_
  kernel_rfl
theorem lvl37_lives_46 (n:Nat):watch_Turned_1 (n+38) (([([97],[])],(1,(0,10))),((0,2001),(0,1))) (fun y0=>Go.Proofs.YtefpnjjbopdplaaGreatDoor.watch_in_1 (n+37) y0.fst (lvl37_lives_S0,Int.ofNat 2,Int.ofNat 0).fst) (fun y0=>Go.Proofs.YtefpnjjbopdplaaGreatDoor.watch_in_1 (n+37) y0.fst (lvl37_lives_S2,Int.ofNat 0).fst)=some false:=by
  rw[watch_Turned_1_eq]
  refine ob (lvl37_lives_27 n) ?_
  refine tf (by kernel_rfl) ?_
  kernel_rfl
theorem lvl37_lives_47 (n:Nat):watch_One (n+36) ((20,((10,(20,60)),((4,(5,6)),(3,9)))),(0,((-1),[([],(0,((0,(0,[])),(([],([],[])),(0,(0,((0,(0,(0,false))),((0,(0,(0,false))),((0,0),(0,(0,0))))))))))),([],(0,((0,(0,[])),(([],([],[])),(0,(0,((0,(0,(0,false))),((0,(0,(0,false))),((0,0),(0,(0,0))))))))))),([],(0,((0,(0,[])),(([],([],[])),(0,(0,((0,(0,(0,false))),((0,(0,(0,false))),((0,0),(0,(0,0)))))))))))]))) (([([97],[])],(1,(0,10))),((0,1),(0,3)))=some (false,12):=by
  rw[watch_One_eq]
  refine ob (lvl37_lives_14 (n+19)) ?_
  refine tf (by kernel_rfl) ?_
  refine ob (lvl37_lives_28 (n+27)) ?_
  refine tf (by kernel_rfl) ?_
  refine ob (lvl37_lives_15 (n+10)) ?_
  refine tt (by kernel_rfl) ?_
  refine tt (by kernel_rfl) ?_
  kernel_rfl
theorem lvl37_lives_48 (n:Nat):watch_in_1 (n+37) (([([97],[])],(1,(0,10))),((0,1),(0,3))) ((20,((10,(20,60)),((4,(5,6)),(3,9)))),(0,((-1),[([],(0,((0,(0,[])),(([],([],[])),(0,(0,((0,(0,(0,false))),((0,(0,(0,false))),((0,0),(0,(0,0))))))))))),([],(0,((0,(0,[])),(([],([],[])),(0,(0,((0,(0,(0,false))),((0,(0,(0,false))),((0,0),(0,(0,0))))))))))),([],(0,((0,(0,[])),(([],([],[])),(0,(0,((0,(0,(0,false))),((0,(0,(0,false))),((0,0),(0,(0,0)))))))))))])))=some false:=by
  rw[watch_in_1_eq]
  refine ob (lvl37_lives_47 n) ?_
  kernel_rfl
theorem lvl37_lives_49 (n:Nat):watch_Turned_1 (n+38) (([([97],[])],(1,(0,10))),((0,1),(0,3))) (fun y0=>Go.Proofs.YtefpnjjbopdplaaGreatDoor.watch_in_1 (n+37) y0.fst (lvl37_lives_S0,Int.ofNat 2,Int.ofNat 0).fst) (fun y0=>Go.Proofs.YtefpnjjbopdplaaGreatDoor.watch_in_1 (n+37) y0.fst (lvl37_lives_S2,Int.ofNat 0).fst)=some true:=by
  rw[watch_Turned_1_eq]
  refine ob (lvl37_lives_31 n) ?_
  refine tt (by kernel_rfl) ?_
  refine ob (lvl37_lives_48 n) ?_
  kernel_rfl
theorem lvl37_lives_50 (n f:Nat):watch_watches_places_l3 (n+37) (f+1) ((fun y3=>Go.Proofs.YtefpnjjbopdplaaGreatDoor.watch_Turned_1 (n+38) y3.fst (fun y0=>Go.Proofs.YtefpnjjbopdplaaGreatDoor.watch_in_1 (n+37) y0.fst (lvl37_lives_S0,Int.ofNat 2,Int.ofNat 0).fst) fun y0=>Go.Proofs.YtefpnjjbopdplaaGreatDoor.watch_in_1 (n+37) y0.fst (lvl37_lives_S2,Int.ofNat 0).fst),([0,2],([(([([97],[])],(1,(0,10))),((0,2000),(0,1))),(([([97],[])],(1,(0,10))),((0,2001),(0,1))),(([([97],[])],(1,(0,10))),((0,1),(0,3)))],(3,(3,())))))=some (.inl ([0,2],())):=by
  rw[watch_watches_places_l3_eq]
  refine tf (by kernel_rfl) ?_
  kernel_rfl
theorem lvl37_lives_51 (n f:Nat):watch_watches_places_l3 (n+37) (f+2) ((fun y3=>Go.Proofs.YtefpnjjbopdplaaGreatDoor.watch_Turned_1 (n+38) y3.fst (fun y0=>Go.Proofs.YtefpnjjbopdplaaGreatDoor.watch_in_1 (n+37) y0.fst (lvl37_lives_S0,Int.ofNat 2,Int.ofNat 0).fst) fun y0=>Go.Proofs.YtefpnjjbopdplaaGreatDoor.watch_in_1 (n+37) y0.fst (lvl37_lives_S2,Int.ofNat 0).fst),([0],([(([([97],[])],(1,(0,10))),((0,2000),(0,1))),(([([97],[])],(1,(0,10))),((0,2001),(0,1))),(([([97],[])],(1,(0,10))),((0,1),(0,3)))],(3,(2,())))))=some (.inl ([0,2],())):=by
  rw[watch_watches_places_l3_eq]
  refine tt (by kernel_rfl) ?_
  refine ob (x:=(([([97],[])],(1,(0,10))),((0,1),(0,3)))) (by kernel_rfl) ?_
  refine ob (lvl37_lives_49 n) ?_
  refine tt (by kernel_rfl) ?_
  refine tt (by kernel_rfl) ?_
  exact lvl37_lives_50 n f
theorem lvl37_lives_52 (n f:Nat):watch_watches_places_l3 (n+37) (f+3) ((fun y3=>Go.Proofs.YtefpnjjbopdplaaGreatDoor.watch_Turned_1 (n+38) y3.fst (fun y0=>Go.Proofs.YtefpnjjbopdplaaGreatDoor.watch_in_1 (n+37) y0.fst (lvl37_lives_S0,Int.ofNat 2,Int.ofNat 0).fst) fun y0=>Go.Proofs.YtefpnjjbopdplaaGreatDoor.watch_in_1 (n+37) y0.fst (lvl37_lives_S2,Int.ofNat 0).fst),([0],([(([([97],[])],(1,(0,10))),((0,2000),(0,1))),(([([97],[])],(1,(0,10))),((0,2001),(0,1))),(([([97],[])],(1,(0,10))),((0,1),(0,3)))],(3,(1,())))))=some (.inl ([0,2],())):=by
  rw[watch_watches_places_l3_eq]
  refine tt (by kernel_rfl) ?_
  refine ob (x:=(([([97],[])],(1,(0,10))),((0,2001),(0,1)))) (by kernel_rfl) ?_
  refine ob (lvl37_lives_46 n) ?_
  refine tf (by kernel_rfl) ?_
  exact lvl37_lives_51 n f
theorem lvl37_lives_53 (n f:Nat):watch_watches_places_l3 (n+37) (f+4) ((fun y3=>Go.Proofs.YtefpnjjbopdplaaGreatDoor.watch_Turned_1 (n+38) y3.fst (fun y0=>Go.Proofs.YtefpnjjbopdplaaGreatDoor.watch_in_1 (n+37) y0.fst (lvl37_lives_S0,Int.ofNat 2,Int.ofNat 0).fst) fun y0=>Go.Proofs.YtefpnjjbopdplaaGreatDoor.watch_in_1 (n+37) y0.fst (lvl37_lives_S2,Int.ofNat 0).fst),([],([(([([97],[])],(1,(0,10))),((0,2000),(0,1))),(([([97],[])],(1,(0,10))),((0,2001),(0,1))),(([([97],[])],(1,(0,10))),((0,1),(0,3)))],(3,(0,())))))=some (.inl ([0,2],())):=by
  rw[watch_watches_places_l3_eq]
  refine tt (by kernel_rfl) ?_
  refine ob (x:=(([([97],[])],(1,(0,10))),((0,2000),(0,1)))) (by kernel_rfl) ?_
  refine ob (lvl37_lives_45 n) ?_
  refine tt (by kernel_rfl) ?_
  refine tt (by kernel_rfl) ?_
  exact lvl37_lives_52 n f
theorem lvl37_lives_54 (n:Nat):watch_watches_places (n+38) [(([([97],[])],(1,(0,10))),((0,2000),(0,1))),(([([97],[])],(1,(0,10))),((0,2001),(0,1))),(([([97],[])],(1,(0,10))),((0,1),(0,3)))] (fun y3=>Go.Proofs.YtefpnjjbopdplaaGreatDoor.watch_Turned_1 (n+38) y3.fst (fun y0=>Go.Proofs.YtefpnjjbopdplaaGreatDoor.watch_in_1 (n+37) y0.fst (lvl37_lives_S0,Int.ofNat 2,Int.ofNat 0).fst) fun y0=>Go.Proofs.YtefpnjjbopdplaaGreatDoor.watch_in_1 (n+37) y0.fst (lvl37_lives_S2,Int.ofNat 0).fst)=some [0,2]:=by
  rw[watch_watches_places_eq]
  refine ob (atFuel (h:=by unfold loopFuel;omega) (lvl37_lives_53 n (loopFuel-4))) ?_
  refine Eq.trans (selim_inl ..) ?_
  kernel_rfl
theorem lvl37_lives_55 (n:Nat):watch_Turned_2 (n+38) (([([97],[])],(1,(0,10))),((0,2000),(0,1))) (fun y0=>Go.Proofs.YtefpnjjbopdplaaGreatDoor.watch_in_1 (n+37) y0.fst (lvl37_lives_S2,Int.ofNat 0).fst) (fun y0=>Go.Proofs.YtefpnjjbopdplaaGreatDoor.watch_in_1 (n+37) y0.fst (lvl37_lives_S0,Int.ofNat 2,Int.ofNat 0).fst)=some false:=by
  rw[watch_Turned_2_eq]
  refine ob (lvl37_lives_44 n) ?_
  refine tf (by kernel_rfl) ?_
  kernel_rfl
theorem lvl37_lives_56 (n:Nat):watch_One (n+36) ((20,((10,(20,60)),((4,(5,6)),(3,9)))),(0,((-1),[([],(0,((0,(0,[])),(([],([],[])),(0,(0,((0,(0,(0,false))),((0,(0,(0,false))),((0,0),(0,(0,0))))))))))),([],(0,((0,(0,[])),(([],([],[])),(0,(0,((0,(0,(0,false))),((0,(0,(0,false))),((0,0),(0,(0,0))))))))))),([],(0,((0,(0,[])),(([],([],[])),(0,(0,((0,(0,(0,false))),((0,(0,(0,false))),((0,0),(0,(0,0)))))))))))]))) (([([97],[])],(1,(0,10))),((0,2001),(0,1)))=some (false,12):=by
  rw[watch_One_eq]
  refine ob (lvl37_lives_14 (n+19)) ?_
  refine tf (by kernel_rfl) ?_
  refine ob (lvl37_lives_11 (n+27)) ?_
  refine tf (by kernel_rfl) ?_
  refine ob (lvl37_lives_15 (n+10)) ?_
  refine tt (by kernel_rfl) ?_
  refine tt (by kernel_rfl) ?_
  kernel_rfl
theorem lvl37_lives_57 (n:Nat):watch_in_1 (n+37) (([([97],[])],(1,(0,10))),((0,2001),(0,1))) ((20,((10,(20,60)),((4,(5,6)),(3,9)))),(0,((-1),[([],(0,((0,(0,[])),(([],([],[])),(0,(0,((0,(0,(0,false))),((0,(0,(0,false))),((0,0),(0,(0,0))))))))))),([],(0,((0,(0,[])),(([],([],[])),(0,(0,((0,(0,(0,false))),((0,(0,(0,false))),((0,0),(0,(0,0))))))))))),([],(0,((0,(0,[])),(([],([],[])),(0,(0,((0,(0,(0,false))),((0,(0,(0,false))),((0,0),(0,(0,0)))))))))))])))=some false:=by
  rw[watch_in_1_eq]
  refine ob (lvl37_lives_56 n) ?_
  kernel_rfl
theorem lvl37_lives_58 (n:Nat):watch_Turned_2 (n+38) (([([97],[])],(1,(0,10))),((0,2001),(0,1))) (fun y0=>Go.Proofs.YtefpnjjbopdplaaGreatDoor.watch_in_1 (n+37) y0.fst (lvl37_lives_S2,Int.ofNat 0).fst) (fun y0=>Go.Proofs.YtefpnjjbopdplaaGreatDoor.watch_in_1 (n+37) y0.fst (lvl37_lives_S0,Int.ofNat 2,Int.ofNat 0).fst)=some false:=by
  rw[watch_Turned_2_eq]
  refine ob (lvl37_lives_57 n) ?_
  refine tf (by kernel_rfl) ?_
  kernel_rfl
theorem lvl37_lives_59 (n:Nat):watch_Turned_2 (n+38) (([([97],[])],(1,(0,10))),((0,1),(0,3))) (fun y0=>Go.Proofs.YtefpnjjbopdplaaGreatDoor.watch_in_1 (n+37) y0.fst (lvl37_lives_S2,Int.ofNat 0).fst) (fun y0=>Go.Proofs.YtefpnjjbopdplaaGreatDoor.watch_in_1 (n+37) y0.fst (lvl37_lives_S0,Int.ofNat 2,Int.ofNat 0).fst)=some false:=by
  rw[watch_Turned_2_eq]
  refine ob (lvl37_lives_48 n) ?_
  refine tf (by kernel_rfl) ?_
  kernel_rfl
theorem lvl37_lives_60 (n f:Nat):watch_watches_places_l3 (n+37) (f+1) ((fun y5=>Go.Proofs.YtefpnjjbopdplaaGreatDoor.watch_Turned_2 (n+38) y5.fst (fun y0=>Go.Proofs.YtefpnjjbopdplaaGreatDoor.watch_in_1 (n+37) y0.fst (lvl37_lives_S2,Int.ofNat 0).fst) fun y0=>Go.Proofs.YtefpnjjbopdplaaGreatDoor.watch_in_1 (n+37) y0.fst (lvl37_lives_S0,Int.ofNat 2,Int.ofNat 0).fst),([],([(([([97],[])],(1,(0,10))),((0,2000),(0,1))),(([([97],[])],(1,(0,10))),((0,2001),(0,1))),(([([97],[])],(1,(0,10))),((0,1),(0,3)))],(3,(3,())))))=some (.inl ([],())):=by
  rw[watch_watches_places_l3_eq]
  refine tf (by kernel_rfl) ?_
  kernel_rfl
theorem lvl37_lives_61 (n f:Nat):watch_watches_places_l3 (n+37) (f+2) ((fun y5=>Go.Proofs.YtefpnjjbopdplaaGreatDoor.watch_Turned_2 (n+38) y5.fst (fun y0=>Go.Proofs.YtefpnjjbopdplaaGreatDoor.watch_in_1 (n+37) y0.fst (lvl37_lives_S2,Int.ofNat 0).fst) fun y0=>Go.Proofs.YtefpnjjbopdplaaGreatDoor.watch_in_1 (n+37) y0.fst (lvl37_lives_S0,Int.ofNat 2,Int.ofNat 0).fst),([],([(([([97],[])],(1,(0,10))),((0,2000),(0,1))),(([([97],[])],(1,(0,10))),((0,2001),(0,1))),(([([97],[])],(1,(0,10))),((0,1),(0,3)))],(3,(2,())))))=some (.inl ([],())):=by
  rw[watch_watches_places_l3_eq]
  refine tt (by kernel_rfl) ?_
  refine ob (x:=(([([97],[])],(1,(0,10))),((0,1),(0,3)))) (by kernel_rfl) ?_
  refine ob (lvl37_lives_59 n) ?_
  refine tf (by kernel_rfl) ?_
  exact lvl37_lives_60 n f
theorem lvl37_lives_62 (n f:Nat):watch_watches_places_l3 (n+37) (f+3) ((fun y5=>Go.Proofs.YtefpnjjbopdplaaGreatDoor.watch_Turned_2 (n+38) y5.fst (fun y0=>Go.Proofs.YtefpnjjbopdplaaGreatDoor.watch_in_1 (n+37) y0.fst (lvl37_lives_S2,Int.ofNat 0).fst) fun y0=>Go.Proofs.YtefpnjjbopdplaaGreatDoor.watch_in_1 (n+37) y0.fst (lvl37_lives_S0,Int.ofNat 2,Int.ofNat 0).fst),([],([(([([97],[])],(1,(0,10))),((0,2000),(0,1))),(([([97],[])],(1,(0,10))),((0,2001),(0,1))),(([([97],[])],(1,(0,10))),((0,1),(0,3)))],(3,(1,())))))=some (.inl ([],())):=by
  rw[watch_watches_places_l3_eq]
  refine tt (by kernel_rfl) ?_
  refine ob (x:=(([([97],[])],(1,(0,10))),((0,2001),(0,1)))) (by kernel_rfl) ?_
  refine ob (lvl37_lives_58 n) ?_
  refine tf (by kernel_rfl) ?_
  exact lvl37_lives_61 n f
theorem lvl37_lives_63 (n f:Nat):watch_watches_places_l3 (n+37) (f+4) ((fun y5=>Go.Proofs.YtefpnjjbopdplaaGreatDoor.watch_Turned_2 (n+38) y5.fst (fun y0=>Go.Proofs.YtefpnjjbopdplaaGreatDoor.watch_in_1 (n+37) y0.fst (lvl37_lives_S2,Int.ofNat 0).fst) fun y0=>Go.Proofs.YtefpnjjbopdplaaGreatDoor.watch_in_1 (n+37) y0.fst (lvl37_lives_S0,Int.ofNat 2,Int.ofNat 0).fst),([],([(([([97],[])],(1,(0,10))),((0,2000),(0,1))),(([([97],[])],(1,(0,10))),((0,2001),(0,1))),(([([97],[])],(1,(0,10))),((0,1),(0,3)))],(3,(0,())))))=some (.inl ([],())):=by
  rw[watch_watches_places_l3_eq]
  refine tt (by kernel_rfl) ?_
  refine ob (x:=(([([97],[])],(1,(0,10))),((0,2000),(0,1)))) (by kernel_rfl) ?_
  refine ob (lvl37_lives_55 n) ?_
  refine tf (by kernel_rfl) ?_
  exact lvl37_lives_62 n f
theorem lvl37_lives_64 (n:Nat):watch_watches_places (n+38) [(([([97],[])],(1,(0,10))),((0,2000),(0,1))),(([([97],[])],(1,(0,10))),((0,2001),(0,1))),(([([97],[])],(1,(0,10))),((0,1),(0,3)))] (fun y5=>Go.Proofs.YtefpnjjbopdplaaGreatDoor.watch_Turned_2 (n+38) y5.fst (fun y0=>Go.Proofs.YtefpnjjbopdplaaGreatDoor.watch_in_1 (n+37) y0.fst (lvl37_lives_S2,Int.ofNat 0).fst) fun y0=>Go.Proofs.YtefpnjjbopdplaaGreatDoor.watch_in_1 (n+37) y0.fst (lvl37_lives_S0,Int.ofNat 2,Int.ofNat 0).fst)=some []:=by
  rw[watch_watches_places_eq]
  refine ob (atFuel (h:=by unfold loopFuel;omega) (lvl37_lives_63 n (loopFuel-4))) ?_
  refine Eq.trans (selim_inl ..) ?_
  kernel_rfl
theorem lvl37_lives_65 (n:Nat):watch_Turned (n+39) ((20,((10,(20,60)),((4,(5,6)),(3,9)))),(0,((-1),[([],(0,((0,(0,[])),(([],([],[])),(0,(0,((0,(0,(0,false))),((0,(0,(0,false))),((0,0),(0,(0,0))))))))))),([],(0,((0,(0,[])),(([],([],[])),(0,(0,((0,(0,(0,false))),((0,(0,(0,false))),((0,0),(0,(0,0))))))))))),([],(0,((0,(0,[])),(([],([],[])),(0,(0,((0,(0,(0,false))),((0,(0,(0,false))),((0,0),(0,(0,0)))))))))))]))) lvl37_lives_S1 [(([([97],[])],(1,(0,10))),((0,2000),(0,1))),(([([97],[])],(1,(0,10))),((0,2001),(0,1))),(([([97],[])],(1,(0,10))),((0,1),(0,3)))]=some ([0,2],([],0)):=by
  rw[watch_Turned_eq]
  refine ob (lvl37_lives_41 n) ?_
  refine tf (by kernel_rfl) ?_
  refine ob (lvl37_lives_42 n) ?_
  refine ob (lvl37_lives_23 n) ?_
  refine ob (lvl37_lives_54 n) ?_
  refine ob (lvl37_lives_64 n) ?_
  kernel_rfl
theorem lvl37_lives_66 (n f:Nat):watch_watches_may_l4 (n+37) (f+1) ([lvl37_lives_S1,((20,((10,(20,60)),((4,(5,6)),(3,9)))),(0,((-1),[([],(0,((0,(0,[])),(([],([],[])),(0,(0,((0,(0,(0,false))),((0,(0,(0,false))),((0,0),(0,(0,0))))))))))),([],(0,((0,(0,[])),(([],([],[])),(0,(0,((0,(0,(0,false))),((0,(0,(0,false))),((0,0),(0,(0,0))))))))))),([],(0,((0,(0,[])),(([],([],[])),(0,(0,((0,(0,(0,false))),((0,(0,(0,false))),((0,0),(0,(0,0)))))))))))])))],(2,(2,())))=some (.inl ()):=by
  rw[watch_watches_may_l4_eq]
  refine tf (by kernel_rfl) ?_
  kernel_rfl
theorem lvl37_lives_67 (n f:Nat):watch_watches_may_l4 (n+37) (f+2) ([lvl37_lives_S1,((20,((10,(20,60)),((4,(5,6)),(3,9)))),(0,((-1),[([],(0,((0,(0,[])),(([],([],[])),(0,(0,((0,(0,(0,false))),((0,(0,(0,false))),((0,0),(0,(0,0))))))))))),([],(0,((0,(0,[])),(([],([],[])),(0,(0,((0,(0,(0,false))),((0,(0,(0,false))),((0,0),(0,(0,0))))))))))),([],(0,((0,(0,[])),(([],([],[])),(0,(0,((0,(0,(0,false))),((0,(0,(0,false))),((0,0),(0,(0,0)))))))))))])))],(2,(1,())))=some (.inl ()):=by
  rw[watch_watches_may_l4_eq]
  refine tt (by kernel_rfl) ?_
  refine ob (x:=((20,((10,(20,60)),((4,(5,6)),(3,9)))),(0,((-1),[([],(0,((0,(0,[])),(([],([],[])),(0,(0,((0,(0,(0,false))),((0,(0,(0,false))),((0,0),(0,(0,0))))))))))),([],(0,((0,(0,[])),(([],([],[])),(0,(0,((0,(0,(0,false))),((0,(0,(0,false))),((0,0),(0,(0,0))))))))))),([],(0,((0,(0,[])),(([],([],[])),(0,(0,((0,(0,(0,false))),((0,(0,(0,false))),((0,0),(0,(0,0)))))))))))])))) (by kernel_rfl) ?_
  refine ob (lvl37_lives_14 (n+21)) ?_
  refine tf (by kernel_rfl) ?_
  exact lvl37_lives_66 n f
theorem lvl37_lives_68 (n f:Nat):watch_watches_may_l4 (n+37) (f+3) ([lvl37_lives_S1,((20,((10,(20,60)),((4,(5,6)),(3,9)))),(0,((-1),[([],(0,((0,(0,[])),(([],([],[])),(0,(0,((0,(0,(0,false))),((0,(0,(0,false))),((0,0),(0,(0,0))))))))))),([],(0,((0,(0,[])),(([],([],[])),(0,(0,((0,(0,(0,false))),((0,(0,(0,false))),((0,0),(0,(0,0))))))))))),([],(0,((0,(0,[])),(([],([],[])),(0,(0,((0,(0,(0,false))),((0,(0,(0,false))),((0,0),(0,(0,0)))))))))))])))],(2,(0,())))=some (.inl ()):=by
  rw[watch_watches_may_l4_eq]
  refine tt (by kernel_rfl) ?_
  refine ob (x:=lvl37_lives_S1) (by kernel_rfl) ?_
  refine ob (lvl37_lives_6 (n+21)) ?_
  refine tf (by kernel_rfl) ?_
  exact lvl37_lives_67 n f
theorem lvl37_lives_69 (n:Nat):watch_watches_may (n+38) [(([([97],[])],(1,(0,10))),((0,2001),(0,1))),(([([97],[])],(1,(0,10))),((0,1),(0,3)))] [lvl37_lives_S1,((20,((10,(20,60)),((4,(5,6)),(3,9)))),(0,((-1),[([],(0,((0,(0,[])),(([],([],[])),(0,(0,((0,(0,(0,false))),((0,(0,(0,false))),((0,0),(0,(0,0))))))))))),([],(0,((0,(0,[])),(([],([],[])),(0,(0,((0,(0,(0,false))),((0,(0,(0,false))),((0,0),(0,(0,0))))))))))),([],(0,((0,(0,[])),(([],([],[])),(0,(0,((0,(0,(0,false))),((0,(0,(0,false))),((0,0),(0,(0,0)))))))))))])))]=some 0:=by
  rw[watch_watches_may_eq]
  refine tf (by kernel_rfl) ?_
  refine ob (atFuel (h:=by unfold loopFuel;omega) (lvl37_lives_68 n (loopFuel-3))) ?_
  refine Eq.trans (selim_inl ..) ?_
  kernel_rfl
theorem lvl37_lives_70 (n:Nat):watch_Turned_1 (n+38) (([([97],[])],(1,(0,10))),((0,2001),(0,1))) (fun y0=>Go.Proofs.YtefpnjjbopdplaaGreatDoor.watch_in_1 (n+37) y0.fst (lvl37_lives_S2,Int.ofNat 0).fst) (fun y0=>Go.Proofs.YtefpnjjbopdplaaGreatDoor.watch_in_1 (n+37) y0.fst (lvl37_lives_S0,Int.ofNat 2,Int.ofNat 0).fst)=some false:=by
  rw[watch_Turned_1_eq]
  refine ob (lvl37_lives_57 n) ?_
  refine tf (by kernel_rfl) ?_
  kernel_rfl
theorem lvl37_lives_71 (n:Nat):watch_Turned_1 (n+38) (([([97],[])],(1,(0,10))),((0,1),(0,3))) (fun y0=>Go.Proofs.YtefpnjjbopdplaaGreatDoor.watch_in_1 (n+37) y0.fst (lvl37_lives_S2,Int.ofNat 0).fst) (fun y0=>Go.Proofs.YtefpnjjbopdplaaGreatDoor.watch_in_1 (n+37) y0.fst (lvl37_lives_S0,Int.ofNat 2,Int.ofNat 0).fst)=some false:=by
  rw[watch_Turned_1_eq]
  refine ob (lvl37_lives_48 n) ?_
  refine tf (by kernel_rfl) ?_
  kernel_rfl
theorem lvl37_lives_72 (n f:Nat):watch_watches_places_l3 (n+37) (f+1) ((fun y3=>Go.Proofs.YtefpnjjbopdplaaGreatDoor.watch_Turned_1 (n+38) y3.fst (fun y0=>Go.Proofs.YtefpnjjbopdplaaGreatDoor.watch_in_1 (n+37) y0.fst (lvl37_lives_S2,Int.ofNat 0).fst) fun y0=>Go.Proofs.YtefpnjjbopdplaaGreatDoor.watch_in_1 (n+37) y0.fst (lvl37_lives_S0,Int.ofNat 2,Int.ofNat 0).fst),([],([(([([97],[])],(1,(0,10))),((0,2001),(0,1))),(([([97],[])],(1,(0,10))),((0,1),(0,3)))],(2,(2,())))))=some (.inl ([],())):=by
  rw[watch_watches_places_l3_eq]
  refine tf (by kernel_rfl) ?_
  kernel_rfl
theorem lvl37_lives_73 (n f:Nat):watch_watches_places_l3 (n+37) (f+2) ((fun y3=>Go.Proofs.YtefpnjjbopdplaaGreatDoor.watch_Turned_1 (n+38) y3.fst (fun y0=>Go.Proofs.YtefpnjjbopdplaaGreatDoor.watch_in_1 (n+37) y0.fst (lvl37_lives_S2,Int.ofNat 0).fst) fun y0=>Go.Proofs.YtefpnjjbopdplaaGreatDoor.watch_in_1 (n+37) y0.fst (lvl37_lives_S0,Int.ofNat 2,Int.ofNat 0).fst),([],([(([([97],[])],(1,(0,10))),((0,2001),(0,1))),(([([97],[])],(1,(0,10))),((0,1),(0,3)))],(2,(1,())))))=some (.inl ([],())):=by
  rw[watch_watches_places_l3_eq]
  refine tt (by kernel_rfl) ?_
  refine ob (x:=(([([97],[])],(1,(0,10))),((0,1),(0,3)))) (by kernel_rfl) ?_
  refine ob (lvl37_lives_71 n) ?_
  refine tf (by kernel_rfl) ?_
  exact lvl37_lives_72 n f
theorem lvl37_lives_74 (n f:Nat):watch_watches_places_l3 (n+37) (f+3) ((fun y3=>Go.Proofs.YtefpnjjbopdplaaGreatDoor.watch_Turned_1 (n+38) y3.fst (fun y0=>Go.Proofs.YtefpnjjbopdplaaGreatDoor.watch_in_1 (n+37) y0.fst (lvl37_lives_S2,Int.ofNat 0).fst) fun y0=>Go.Proofs.YtefpnjjbopdplaaGreatDoor.watch_in_1 (n+37) y0.fst (lvl37_lives_S0,Int.ofNat 2,Int.ofNat 0).fst),([],([(([([97],[])],(1,(0,10))),((0,2001),(0,1))),(([([97],[])],(1,(0,10))),((0,1),(0,3)))],(2,(0,())))))=some (.inl ([],())):=by
  rw[watch_watches_places_l3_eq]
  refine tt (by kernel_rfl) ?_
  refine ob (x:=(([([97],[])],(1,(0,10))),((0,2001),(0,1)))) (by kernel_rfl) ?_
  refine ob (lvl37_lives_70 n) ?_
  refine tf (by kernel_rfl) ?_
  exact lvl37_lives_73 n f
theorem lvl37_lives_75 (n:Nat):watch_watches_places (n+38) [(([([97],[])],(1,(0,10))),((0,2001),(0,1))),(([([97],[])],(1,(0,10))),((0,1),(0,3)))] (fun y3=>Go.Proofs.YtefpnjjbopdplaaGreatDoor.watch_Turned_1 (n+38) y3.fst (fun y0=>Go.Proofs.YtefpnjjbopdplaaGreatDoor.watch_in_1 (n+37) y0.fst (lvl37_lives_S2,Int.ofNat 0).fst) fun y0=>Go.Proofs.YtefpnjjbopdplaaGreatDoor.watch_in_1 (n+37) y0.fst (lvl37_lives_S0,Int.ofNat 2,Int.ofNat 0).fst)=some []:=by
  rw[watch_watches_places_eq]
  refine ob (atFuel (h:=by unfold loopFuel;omega) (lvl37_lives_74 n (loopFuel-3))) ?_
  refine Eq.trans (selim_inl ..) ?_
  kernel_rfl
theorem lvl37_lives_76 (n:Nat):watch_Turned_2 (n+38) (([([97],[])],(1,(0,10))),((0,2001),(0,1))) (fun y0=>Go.Proofs.YtefpnjjbopdplaaGreatDoor.watch_in_1 (n+37) y0.fst (lvl37_lives_S0,Int.ofNat 2,Int.ofNat 0).fst) (fun y0=>Go.Proofs.YtefpnjjbopdplaaGreatDoor.watch_in_1 (n+37) y0.fst (lvl37_lives_S2,Int.ofNat 0).fst)=some false:=by
  rw[watch_Turned_2_eq]
  refine ob (lvl37_lives_27 n) ?_
  refine tf (by kernel_rfl) ?_
  kernel_rfl
theorem lvl37_lives_77 (n:Nat):watch_Turned_2 (n+38) (([([97],[])],(1,(0,10))),((0,1),(0,3))) (fun y0=>Go.Proofs.YtefpnjjbopdplaaGreatDoor.watch_in_1 (n+37) y0.fst (lvl37_lives_S0,Int.ofNat 2,Int.ofNat 0).fst) (fun y0=>Go.Proofs.YtefpnjjbopdplaaGreatDoor.watch_in_1 (n+37) y0.fst (lvl37_lives_S2,Int.ofNat 0).fst)=some true:=by
  rw[watch_Turned_2_eq]
  refine ob (lvl37_lives_31 n) ?_
  refine tt (by kernel_rfl) ?_
  refine ob (lvl37_lives_48 n) ?_
  kernel_rfl
theorem lvl37_lives_78 (n f:Nat):watch_watches_places_l3 (n+37) (f+1) ((fun y5=>Go.Proofs.YtefpnjjbopdplaaGreatDoor.watch_Turned_2 (n+38) y5.fst (fun y0=>Go.Proofs.YtefpnjjbopdplaaGreatDoor.watch_in_1 (n+37) y0.fst (lvl37_lives_S0,Int.ofNat 2,Int.ofNat 0).fst) fun y0=>Go.Proofs.YtefpnjjbopdplaaGreatDoor.watch_in_1 (n+37) y0.fst (lvl37_lives_S2,Int.ofNat 0).fst),([1],([(([([97],[])],(1,(0,10))),((0,2001),(0,1))),(([([97],[])],(1,(0,10))),((0,1),(0,3)))],(2,(2,())))))=some (.inl ([1],())):=by
  rw[watch_watches_places_l3_eq]
  refine tf (by kernel_rfl) ?_
  kernel_rfl
theorem lvl37_lives_79 (n f:Nat):watch_watches_places_l3 (n+37) (f+2) ((fun y5=>Go.Proofs.YtefpnjjbopdplaaGreatDoor.watch_Turned_2 (n+38) y5.fst (fun y0=>Go.Proofs.YtefpnjjbopdplaaGreatDoor.watch_in_1 (n+37) y0.fst (lvl37_lives_S0,Int.ofNat 2,Int.ofNat 0).fst) fun y0=>Go.Proofs.YtefpnjjbopdplaaGreatDoor.watch_in_1 (n+37) y0.fst (lvl37_lives_S2,Int.ofNat 0).fst),([],([(([([97],[])],(1,(0,10))),((0,2001),(0,1))),(([([97],[])],(1,(0,10))),((0,1),(0,3)))],(2,(1,())))))=some (.inl ([1],())):=by
  rw[watch_watches_places_l3_eq]
  refine tt (by kernel_rfl) ?_
  refine ob (x:=(([([97],[])],(1,(0,10))),((0,1),(0,3)))) (by kernel_rfl) ?_
  refine ob (lvl37_lives_77 n) ?_
  refine tt (by kernel_rfl) ?_
  refine tt (by kernel_rfl) ?_
  exact lvl37_lives_78 n f
theorem lvl37_lives_80 (n f:Nat):watch_watches_places_l3 (n+37) (f+3) ((fun y5=>Go.Proofs.YtefpnjjbopdplaaGreatDoor.watch_Turned_2 (n+38) y5.fst (fun y0=>Go.Proofs.YtefpnjjbopdplaaGreatDoor.watch_in_1 (n+37) y0.fst (lvl37_lives_S0,Int.ofNat 2,Int.ofNat 0).fst) fun y0=>Go.Proofs.YtefpnjjbopdplaaGreatDoor.watch_in_1 (n+37) y0.fst (lvl37_lives_S2,Int.ofNat 0).fst),([],([(([([97],[])],(1,(0,10))),((0,2001),(0,1))),(([([97],[])],(1,(0,10))),((0,1),(0,3)))],(2,(0,())))))=some (.inl ([1],())):=by
  rw[watch_watches_places_l3_eq]
  refine tt (by kernel_rfl) ?_
  refine ob (x:=(([([97],[])],(1,(0,10))),((0,2001),(0,1)))) (by kernel_rfl) ?_
  refine ob (lvl37_lives_76 n) ?_
  refine tf (by kernel_rfl) ?_
  exact lvl37_lives_79 n f
theorem lvl37_lives_81 (n:Nat):watch_watches_places (n+38) [(([([97],[])],(1,(0,10))),((0,2001),(0,1))),(([([97],[])],(1,(0,10))),((0,1),(0,3)))] (fun y5=>Go.Proofs.YtefpnjjbopdplaaGreatDoor.watch_Turned_2 (n+38) y5.fst (fun y0=>Go.Proofs.YtefpnjjbopdplaaGreatDoor.watch_in_1 (n+37) y0.fst (lvl37_lives_S0,Int.ofNat 2,Int.ofNat 0).fst) fun y0=>Go.Proofs.YtefpnjjbopdplaaGreatDoor.watch_in_1 (n+37) y0.fst (lvl37_lives_S2,Int.ofNat 0).fst)=some [1]:=by
  rw[watch_watches_places_eq]
  refine ob (atFuel (h:=by unfold loopFuel;omega) (lvl37_lives_80 n (loopFuel-3))) ?_
  refine Eq.trans (selim_inl ..) ?_
  kernel_rfl
theorem lvl37_lives_82 (n:Nat):watch_Turned (n+39) lvl37_lives_S1 ((20,((10,(20,60)),((4,(5,6)),(3,9)))),(0,((-1),[([],(0,((0,(0,[])),(([],([],[])),(0,(0,((0,(0,(0,false))),((0,(0,(0,false))),((0,0),(0,(0,0))))))))))),([],(0,((0,(0,[])),(([],([],[])),(0,(0,((0,(0,(0,false))),((0,(0,(0,false))),((0,0),(0,(0,0))))))))))),([],(0,((0,(0,[])),(([],([],[])),(0,(0,((0,(0,(0,false))),((0,(0,(0,false))),((0,0),(0,(0,0)))))))))))]))) [(([([97],[])],(1,(0,10))),((0,2001),(0,1))),(([([97],[])],(1,(0,10))),((0,1),(0,3)))]=some ([],([1],0)):=by
  rw[watch_Turned_eq]
  refine ob (lvl37_lives_69 n) ?_
  refine tf (by kernel_rfl) ?_
  refine ob (lvl37_lives_23 n) ?_
  refine ob (lvl37_lives_42 n) ?_
  refine ob (lvl37_lives_75 n) ?_
  refine ob (lvl37_lives_81 n) ?_
  kernel_rfl
theorem lvl37_lives_83 (n:Nat):r06_Same (n+39) [0,2] [0,2]=some true:=by kernel_rfl
theorem lvl37_lives_84 (n:Nat):r06_Same (n+39) [1] [1]=some true:=by kernel_rfl
theorem l37_lives_true (n:Nat):l37_lives (n+40)=some true:=by
  rw[lvl37_lives_eq]
  refine ob (lvl37_lives_0 (n+0)) ?_
  refine ob (lvl37_lives_1 (n+0)) ?_
  refine tf (by kernel_rfl) ?_
  refine ob (lvl37_lives_2 (n+0)) ?_
  refine tf (by kernel_rfl) ?_
  refine tf (by kernel_rfl) ?_
  refine ob (lvl37_lives_3 (n+0)) ?_
  refine ob (lvl37_lives_4 (n+0)) ?_
  refine ob (lvl37_lives_5 (n+0)) ?_
  refine ob (lvl37_lives_10 n) ?_
  refine ob (lvl37_lives_13 n) ?_
  refine ob (lvl37_lives_16 n) ?_
  refine ob (lvl37_lives_17 (n+0)) ?_
  refine ob (lvl37_lives_19 n) ?_
  refine ob (lvl37_lives_37 n) ?_
  refine ob (lvl37_lives_65 n) ?_
  refine ob (lvl37_lives_82 n) ?_
  refine tt (by kernel_rfl) ?_
  refine tt (by kernel_rfl) ?_
  refine tt (by kernel_rfl) ?_
  refine tt (by kernel_rfl) ?_
  refine tt (by kernel_rfl) ?_
  refine tt (by kernel_rfl) ?_
  refine ob (lvl37_lives_83 (n+0)) ?_
  refine tt (by kernel_rfl) ?_
  refine tt (by kernel_rfl) ?_
  refine ob (lvl37_lives_83 (n+0)) ?_
  refine tt (by kernel_rfl) ?_
  refine tt (by kernel_rfl) ?_
  refine tt (by kernel_rfl) ?_
  refine tt (by kernel_rfl) ?_
  refine ob (lvl37_lives_84 (n+0)) ?_
  refine tt (by kernel_rfl) ?_
  kernel_rfl
end Go.Proofs.YtefpnjjbopdplaaGreatDoor

set_option linter.unusedVariables false
namespace Go.Proofs.YtefpnjjbopdplaaGreatDoor
open Go.Flat
noncomputable def WB1 (n:Nat) (f:Nat) (u1:(List Int)) (d1:(List Int)) (u2:(List Int)) (d2:(List Int)) (u3:(List Int)) (d3:(List Int)) (first:(List Int)) (last:(List Int)) (s169:Int) (s170:Int) (r10:Bool):Option (Unit ⊕ Bool) :=
  tif ((!(r10==false))) (
  some (.inr false)) (
  l37_WatchBack_l17 n f (u1,(d1,(u2,(d2,(u3,(d3,(first,(last,(s169,((IntKind.wrap .i64 (s170+(1:Int))),())))))))))))
noncomputable def WB2 (n:Nat) (f:Nat) (u1:(List Int)) (d1:(List Int)) (u2:(List Int)) (d2:(List Int)) (u3:(List Int)) (d3:(List Int)) (first:(List Int)) (last:(List Int)) (s169:Int) (s170:Int) (r0:Bool) (r11:Bool):Option (Unit ⊕ Bool) :=
  obind (l37_in n d3 s170) fun r14 =>
  tif (r0) (
  tif ((!(r14==(!r11)))) (
  some (.inr false)) (
  l37_WatchBack_l17 n f (u1,(d1,(u2,(d2,(u3,(d3,(first,(last,(s169,((IntKind.wrap .i64 (s170+(1:Int))),())))))))))))) (
  WB1 n f u1 d1 u2 d2 u3 d3 first last s169 s170 r14)
noncomputable def WB3 (n:Nat) (f:Nat) (u1:(List Int)) (d1:(List Int)) (u2:(List Int)) (d2:(List Int)) (u3:(List Int)) (d3:(List Int)) (first:(List Int)) (last:(List Int)) (s169:Int) (s170:Int) (r0:Bool):Option (Unit ⊕ Bool) :=
  obind (l37_in n u2 s170) fun r11 =>
  obind (l37_in n last s170) fun r12 =>
  tif ((!(r11==r12))) (
  some (.inr false)) (
  obind (l37_in n u3 s170) fun r13 =>
  tif (r11) (
  tif ((!(r13==(!r0)))) (
  some (.inr false)) (
  WB2 n f u1 d1 u2 d2 u3 d3 first last s169 s170 r0 r11)) (
  tif ((!(r13==false))) (
  some (.inr false)) (
  WB2 n f u1 d1 u2 d2 u3 d3 first last s169 s170 r0 r11)))
noncomputable def WB4 (n:Nat) (f:Nat) (u1:(List Int)) (d1:(List Int)) (u2:(List Int)) (d2:(List Int)) (u3:(List Int)) (d3:(List Int)) (first:(List Int)) (last:(List Int)) (s169:Int) (s170:Int) (r0:Bool):Option (Unit ⊕ Bool) :=
  obind (l37_in n d2 s170) fun r7 =>
  tif ((!r7)) (
  obind (l37_in n last s170) fun r8 =>
  tif ((!(true==r8))) (
  some (.inr false)) (
  obind (l37_in n u3 s170) fun r9 =>
  tif ((!(r9==(!r0)))) (
  some (.inr false)) (
  obind (l37_in n d3 s170) fun r10 =>
  tif (r0) (
  WB1 n f u1 d1 u2 d2 u3 d3 first last s169 s170 r10) (
  WB1 n f u1 d1 u2 d2 u3 d3 first last s169 s170 r10)))) (
  WB3 n f u1 d1 u2 d2 u3 d3 first last s169 s170 r0)
noncomputable def WB5 (n:Nat) (f:Nat) (u1:(List Int)) (d1:(List Int)) (u2:(List Int)) (d2:(List Int)) (u3:(List Int)) (d3:(List Int)) (first:(List Int)) (last:(List Int)) (s169:Int) (s170:Int) (r16:Bool) (r0:Bool):Option (Unit ⊕ Bool) :=
  tif (r16) (
  WB4 n f u1 d1 u2 d2 u3 d3 first last s169 s170 r0) (
  WB3 n f u1 d1 u2 d2 u3 d3 first last s169 s170 r0)
noncomputable def WB6 (n:Nat) (f:Nat) (u1:(List Int)) (d1:(List Int)) (u2:(List Int)) (d2:(List Int)) (u3:(List Int)) (d3:(List Int)) (first:(List Int)) (last:(List Int)) (s169:Int) (s170:Int) (r16:Bool) (r0:Bool):Option (Unit ⊕ Bool) :=
  tif ((!r16)) (
  obind (l37_in n d2 s170) fun r18 =>
  tif (r18) (
  some (.inr false)) (
  WB5 n f u1 d1 u2 d2 u3 d3 first last s169 s170 r16 r0)) (
  WB5 n f u1 d1 u2 d2 u3 d3 first last s169 s170 r16 r0)
noncomputable def WB7 (n:Nat) (f:Nat) (u1:(List Int)) (d1:(List Int)) (u2:(List Int)) (d2:(List Int)) (u3:(List Int)) (d3:(List Int)) (first:(List Int)) (last:(List Int)) (s169:Int) (s170:Int) (r0:Bool):Option (Unit ⊕ Bool) :=
  obind (l37_in n u1 s170) fun r16 =>
  tif (r16) (
  obind (l37_in n u2 s170) fun r17 =>
  tif (r17) (
  some (.inr false)) (
  WB6 n f u1 d1 u2 d2 u3 d3 first last s169 s170 r16 r0)) (
  WB6 n f u1 d1 u2 d2 u3 d3 first last s169 s170 r16 r0)
noncomputable def WB8 (n:Nat) (f:Nat) (u1:(List Int)) (d1:(List Int)) (u2:(List Int)) (d2:(List Int)) (u3:(List Int)) (d3:(List Int)) (first:(List Int)) (last:(List Int)) (s169:Int) (s170:Int) (r0:Bool):Option (Unit ⊕ Bool) :=
  tif (r0) (
  obind (l37_in n d1 s170) fun r5 =>
  tif ((!r5)) (
  obind (l37_in n u2 s170) fun r6 =>
  tif (r6) (
  some (.inr false)) (
  WB4 n f u1 d1 u2 d2 u3 d3 first last s169 s170 r0)) (
  WB7 n f u1 d1 u2 d2 u3 d3 first last s169 s170 r0)) (
  WB7 n f u1 d1 u2 d2 u3 d3 first last s169 s170 r0)
noncomputable def WB9 (n:Nat) (f:Nat) (u1:(List Int)) (d1:(List Int)) (u2:(List Int)) (d2:(List Int)) (u3:(List Int)) (d3:(List Int)) (first:(List Int)) (last:(List Int)) (s169:Int) (s170:Int) (r0:Bool):Option (Unit ⊕ Bool) :=
  obind (l37_in n u1 s170) fun r3 =>
  tif (r3) (
  obind (l37_in n d1 s170) fun r4 =>
  tif (r4) (
  some (.inr false)) (
  WB8 n f u1 d1 u2 d2 u3 d3 first last s169 s170 r0)) (
  WB8 n f u1 d1 u2 d2 u3 d3 first last s169 s170 r0)
noncomputable def WB10 (n:Nat) (f:Nat) (u1:(List Int)) (d1:(List Int)) (u2:(List Int)) (d2:(List Int)) (u3:(List Int)) (d3:(List Int)) (first:(List Int)) (last:(List Int)) (s169:Int) (s170:Int) (r0:Bool):Option (Unit ⊕ Bool) :=
  tif ((!r0)) (
  obind (l37_in n d1 s170) fun r2 =>
  tif (r2) (
  some (.inr false)) (
  WB9 n f u1 d1 u2 d2 u3 d3 first last s169 s170 r0)) (
  WB9 n f u1 d1 u2 d2 u3 d3 first last s169 s170 r0)
theorem l37_back_sh (n:Nat) (f:Nat) (u1:(List Int)) (d1:(List Int)) (u2:(List Int)) (d2:(List Int)) (u3:(List Int)) (d3:(List Int)) (first:(List Int)) (last:(List Int)) (s169:Int) (s170:Int):l37_WatchBack_l17 n (f+1) (u1,d1,u2,d2,u3,d3,first,last,s169,s170,()) =
  tif ((decide (s170<s169))) (
  obind (l37_in n first s170) fun r0 =>
  tif (r0) (
  obind (l37_in n u1 s170) fun r1 =>
  tif (r1) (
  some (.inr false)) (
  WB10 n f u1 d1 u2 d2 u3 d3 first last s169 s170 r0)) (
  WB10 n f u1 d1 u2 d2 u3 d3 first last s169 s170 r0)) (
  some (.inl ())):=by kernel_rfl
end Go.Proofs.YtefpnjjbopdplaaGreatDoor
namespace Go.Proofs.YtefpnjjbopdplaaGreatDoor
open Go.Flat Go.Plim
set_option linter.unusedVariables false
set_option linter.unusedSimpArgs false
theorem ask_len {q:List Lab×(Int×(Int×Int))} (h:Wf tyAsk q):q.1.length≤9223372036854775807:=h.1.1
theorem fr_wf {f:Wd×Wd} (h:Wf tyFraction f):FrW f:=⟨⟨h.1.1,h.1.2⟩,⟨h.2.1,h.2.2⟩⟩
theorem lessF_self {f:Wd×Wd} (h:FracOk f):lessF f f=(false,0)∨lessF f f=(false,1):=by
  unfold lessF
  rw[lessN_self h]
  by_cases c:(wv f.1).toNat*(wv f.2).toNat<340282366920938463463374607431768211456
  · rw[if_pos c];exact .inl rfl
  · rw[if_neg c];exact .inr rfl
theorem lessF_nought {f:Wd×Wd} (hw:FrW f) (h:FracOk f):lessF f ((0,0),(0,1))=(false,0):=by
  unfold lessF
  have:=wv_range hw.n
  exact lessN_nought h (by omega)
theorem fr_nought:FracOk (((0:Int),(0:Int)),((0:Int),(1:Int)))∧FrW (((0:Int),(0:Int)),((0:Int),(1:Int))):=by
  refine ⟨⟨by decide,by decide⟩,⟨ofN_ok (x:=0) (by omega),ofN_ok (x:=1) (by omega)⟩⟩
section
variable {s:Sta} (hs:StaOk s) (q:List Lab×(Int×(Int×Int)))
include hs
theorem one_no (f:Wd×Wd) (h:¬((doQ s q.1 q.2.1 q.2.2.1 q.2.2.2).2=0∧(doQ s q.1 q.2.1 q.2.2.1 q.2.2.2).1.2.2.2=0)):(oneW s (q,f)).1=false:=by
  unfold oneW
  rw[if_pos hs]
  by_cases h1:FracOk (q,f).2
  case neg=>rw[if_neg h1]
  rw[if_pos h1]
  by_cases h2:(doQ s q.1 q.2.1 q.2.2.1 q.2.2.2).2=0
  case neg=>rw[if_neg h2]
  rw[if_pos h2,if_neg fun k=>h ⟨h2,k⟩]
theorem one_yes {f:Wd×Wd} (hf:FracOk f) (h2:(doQ s q.1 q.2.1 q.2.2.1 q.2.2.2).2=0) (h3:(doQ s q.1 q.2.1 q.2.2.1 q.2.2.2).1.2.2.2=0) :
    oneW s (q,f)=if (lessF (doQ s q.1 q.2.1 q.2.2.1 q.2.2.2).1.2.2.1 f).2=0 then (!(lessF (doQ s q.1 q.2.1 q.2.2.1 q.2.2.2).1.2.2.1 f).1,0) else (false,(lessF (doQ s q.1 q.2.1 q.2.2.1 q.2.2.2).1.2.2.1 f).2):=by
  unfold oneW
  rw[if_pos hs,if_pos (show FracOk (q,f).2 from hf),if_pos h2,if_pos h3]
theorem one_lesser {more least:Wd×Wd} (h1:lessF more least=(false,0)) (h2:(oneW s (q,more)).1=true) (h4:(oneW s (q,least)).2=0):(oneW s (q,least)).1=true:=by
  unfold oneW at h2 h4 ⊢
  rw[if_pos hs] at h2 h4 ⊢
  simp only at h2 h4 ⊢
  generalize doQ s q.1 q.2.1 q.2.2.1 q.2.2.2=d at *
  by_cases c1:FracOk more
  case neg=>rw[if_neg c1] at h2;cases h2
  rw[if_pos c1] at h2
  by_cases c2:FracOk least
  case neg=>rw[if_neg c2] at h4;cases h4
  rw[if_pos c2] at h4 ⊢
  by_cases c3:d.2=0
  case neg=>rw[if_neg c3] at h2;cases h2
  rw[if_pos c3] at h2 h4 ⊢
  by_cases c4:d.1.2.2.2=0
  case neg=>rw[if_neg c4] at h2;cases h2
  rw[if_pos c4] at h2 h4 ⊢
  by_cases c5:(lessF d.1.2.2.1 more).2=0
  case neg=>rw[if_neg c5] at h2;cases h2
  rw[if_pos c5] at h2
  by_cases c6:(lessF d.1.2.2.1 least).2=0
  case neg=>rw[if_neg c6] at h4;exact (c6 h4).elim
  rw[if_pos c6]
  have e:lessF d.1.2.2.1 more=(false,0):=Prod.ext (by simpa using h2) c5
  have:=lessN_trans (a:=(wv d.1.2.2.1.1).toNat) (b:=(wv d.1.2.2.1.2).toNat) h1 e c6
  show (!(lessF d.1.2.2.1 least).1)=true
  unfold lessF
  rw[this];rfl
end
theorem watchLesser_true (n:Nat) (s:Sta) (q:List Lab×(Int×(Int×Int))) (least more:Wd×Wd) (hs:Wf tyState s) (hq:Wf tyAsk q) (hl:Wf tyFraction least) (hm:Wf tyFraction more):l37_WatchLesser (n+41) s q least more=some true:=by
  have hw:=sta_wf hs
  have fl:=fr_wf hl
  have fm:=fr_wf hm
  rw[l37_WatchLesser_eq,l37_lives_true n,obs,Bool.not_true,tff]
  rcases l17_small (n+37) hw with h | ⟨h,_⟩
  · rw[h];rfl
  rw[h,obs,show (decide ((1:Int)=0))=false from rfl,tff]
  rcases l05_small (n+39) q.1 (ask_len hq) with h1 | h1
  · rw[h1];rfl
  rw[h1,obs,show (decide ((1:Int)=0))=false from rfl,tff,stt_check (n+26) hw,obs,tfn]
  by_cases hok:StaOk s
  case neg=>rw[if_neg hok];rfl
  rw[if_pos hok,show (decide ((0:Int)=0))=true from rfl,tft,ratio_lessV (n+34) fm fl,obs,watch_one (n+15) hw (w:=(q,more)) fm,obs,watch_one (n+15) hw (w:=(q,least)) fl,obs,query_do (n+16) hw]
  have hno:¬((lessF more least).2=0∧(lessF more least).1=false∧(oneW s (q,more)).1=true∧(oneW s (q,least)).2=0∧(oneW s (q,least)).1=false):=by
    rintro ⟨a1,a2,a3,a4,a5⟩
    rw[one_lesser hok q (Prod.ext a2 a1) a3 a4] at a5;cases a5
  have hR:=doQ_w s q.1 q.2.1 q.2.2.1 q.2.2.2
  have e1:=one_no hok q more
  have e2:=one_no hok q least
  have e3:=fun f hf=>one_yes hok q (f:=f) hf
  generalize oneW s (q,more)=A at *
  generalize oneW s (q,least)=B at *
  generalize lessF more least=L at *
  generalize hd:doQ s q.1 q.2.1 q.2.2.1 q.2.2.2=d at *
  by_cases c:d.2=0∧d.1.2.2.2=0
  case neg =>
    simp only[obs,e1 c,e2 c,tff,tft,Bool.not_false,tif_same]
    by_cases c2:d.2=0
    · have c3:¬d.1.2.2.2=0:=fun k=>c ⟨c2,k⟩
      simp only[decide_eq_true c2,decide_eq_false c3,Bool.not_true,Bool.not_false,tft,tff,tif_same]
    · simp only[decide_eq_false c2,Bool.not_false,tft,tif_same]
  obtain ⟨c2,c3⟩:=c
  obtain ⟨fw,fo⟩:=hR
  have fo:=fo c2 c3
  have eR:=e3 d.1.2.2.1 fo c2 c3
  have e0:=e3 _ fr_nought.1 c2 c3
  rw[lessF_nought fw fo,if_pos rfl] at e0
  have w8:=watch_one (n+15) hw (w:=(q,d.1.2.2.1)) fw
  have w10:=watch_one (n+15) hw (w:=(q,(((0:Int),(0:Int)),((0:Int),(1:Int))))) fr_nought.2
  rw[eR] at w8
  rw[e0] at w10
  have tail:∀x:Option Bool,(obind (watch_One (n+40) s (q,d.1.2.2.1)) fun r8 =>
      obind (l37_rate (n+40) (0:Int) (1:Int)) fun r9 =>
      obind (watch_One (n+40) s (q,r9)) fun r10 =>
      tif ((r8.1==(decide (r8.2=(0:Int))))) (
      tif ((decide (r8.2=(0:Int)))) (
      tif (r10.1) (
      some (decide (r10.2=(0:Int)))) (
      some false)) (
      tif ((decide (r8.2=(1:Int)))) (
      tif (r10.1) (
      some (decide (r10.2=(0:Int)))) (
      some false)) (
      some false))) (
      some false))=some true:=by
    intro _
    rw[w8,obs,l37_rate_eq,obs,w10,obs]
    rcases lessF_self fo with k | k
    · rw[k];rfl
    · rw[k];rfl
  simp only[obs,decide_eq_true c2,decide_eq_true c3,Bool.not_true,tff,tail none]
  simp only[tif_same,tfn,tfd]
  by_cases k1:L.2=0
  case neg=>rw[if_neg k1]
  rw[if_pos k1]
  cases k2:L.1 with
  | true=>rw[tft]
  | false =>
    rw[tff]
    by_cases k3:A.2=0
    case neg=>rw[if_neg k3]
    rw[if_pos k3]
    cases k4:A.1 with
    | false=>rw[tff]
    | true =>
      rw[tft]
      by_cases k5:B.2=0
      case neg=>rw[if_neg k5]
      rw[if_pos k5]
      cases k6:B.1 with
      | true=>rw[tft]
      | false=>exact (hno ⟨k1,k2,k4,k5,k6⟩).elim
theorem small37_l (n:Nat) (ws:List Wat) (hL:ws.length≤1000000) (hq:∀w∈ws,w.1.1.length≤9223372036854775807):∀(rest pre:List Wat) (f:Nat) (i len:Int),ws=pre++rest→i=pre.length→len=ws.length→rest.length<f →
    l37_Small_l4 (n+1) f (ws,len,i,())=some (.inr 0)∨l37_Small_l4 (n+1) f (ws,len,i,())=some (.inl ()):=by
  intro rest
  induction rest with
  | nil =>
    intro pre f i len hl hi hn hf
    obtain ⟨f,rfl⟩:∃g,f=g+1:=⟨f-1,by simp at hf;omega⟩
    rw[l37_Small_l4_eq,decide_eq_false (idxe hl hi hn),tff]
    exact .inr rfl
  | cons x rest ih =>
    intro pre f i len hl hi hn hf
    obtain ⟨f,rfl⟩:∃g,f=g+1:=⟨f-1,by simp at hf;omega⟩
    rw[l37_Small_l4_eq,decide_eq_true (idx hl hi hn),tft,at_mid hl hi,obs]
    rcases l05_small n x.1.1 (hq x (by rw[hl];simp)) with h | h
    · rw[h];exact .inl rfl
    · rw[h,obs,show (decide ((1:Int)=0))=false from rfl,tff,idxw hl hi (show ws.length≤1000000000000 by omega)]
      exact ih (pre++[x]) f (i+1) len (idxl hl) (idxs hi) hn (by simp at hf;omega)
theorem l37_small (n:Nat) (ws:List Wat) (hq:∀w∈ws,w.1.1.length≤9223372036854775807):l37_Small (n+2) ws=some 0∨(l37_Small (n+2) ws=some 1∧ws.length≤300):=by
  rw[l37_Small_eq]
  simp only[tfd]
  by_cases h3:(300:Int)<(ws.length:Int)
  · simp only[if_pos h3]
    rw[if_pos (show (12:Int)<(ws.length:Int) by omega),if_neg (show ¬(ws.length:Int)≤256 by omega)];exact .inl rfl
  simp only[if_neg h3]
  have key:(obind (l37_Small_l4 (n+1) loopFuel (ws,((ws.length:Nat):Int),(0:Int),())) fun r=>selim (fun y=>some (1:Int)) (fun z=>some z) r)=some 0∨(obind (l37_Small_l4 (n+1) loopFuel (ws,((ws.length:Nat):Int),(0:Int),())) fun r=>selim (fun y=>some (1:Int)) (fun z=>some z) r)=some 1:=by
    rcases small37_l n ws (by omega) hq ws [] loopFuel 0 _ rfl rfl rfl (by unfold loopFuel;omega) with h | h
    · rw[h];exact .inl rfl
    · rw[h];exact .inr rfl
  by_cases h1:(12:Int)<(ws.length:Int)
  · rw[if_pos h1]
    by_cases h2:(ws.length:Int)≤256
    · rw[if_pos h2];exact .inl rfl
    · rw[if_neg h2];exact key.imp id fun k=>⟨k,by omega⟩
  · rw[if_neg h1];exact key.imp id fun k=>⟨k,by omega⟩
theorem in_l2 (n:Nat) (z:Int) (l:List Int) (hL:l.length≤1000000):∀(rest pre:List Int) (f:Nat) (i len:Int),l=pre++rest→i=pre.length→len=l.length→rest.length<f →
    l37_in_l2 n f (z,l,len,i,())=some (if z∈rest then .inr true else .inl ()):=by
  intro rest
  induction rest with
  | nil =>
    intro pre f i len hl hi hn hf
    obtain ⟨f,rfl⟩:∃g,f=g+1:=⟨f-1,by simp at hf;omega⟩
    rw[l37_in_l2_eq,decide_eq_false (idxe hl hi hn),tff];rfl
  | cons x rest ih =>
    intro pre f i len hl hi hn hf
    obtain ⟨f,rfl⟩:∃g,f=g+1:=⟨f-1,by simp at hf;omega⟩
    rw[l37_in_l2_eq,decide_eq_true (idx hl hi hn),tft,at_mid hl hi,obs,idxw hl hi (show l.length≤1000000000000 by omega),tfd]
    by_cases h:x=z
    · rw[if_pos h,if_pos (by rw[h];simp)]
    · rw[if_neg h,ih (pre++[x]) f (i+1) len (idxl hl) (idxs hi) hn (by simp at hf;omega)]
      by_cases k:z∈rest
      · rw[if_pos k,if_pos (by simp[k])]
      · rw[if_neg k,if_neg]
        intro q
        rcases List.mem_cons.1 q with q | q
        · exact h q.symm
        · exact k q
theorem in_val (n:Nat) (l:List Int) (hL:l.length≤1000000) (z:Int):l37_in (n+1) l z=some (decide (z∈l)):=by
  rw[l37_in_eq,in_l2 n z l hL l [] loopFuel 0 _ rfl rfl rfl (by unfold loopFuel;omega),obs]
  by_cases h:z∈l
  · rw[if_pos h,decide_eq_true h];rfl
  · rw[if_neg h,decide_eq_false h];rfl
theorem in_plcs (n:Nat) (p:Wat→Bool) (ws:List Wat) (hL:ws.length≤1000000) {j:Nat} {w:Wat} (h:ws[j]? = some w):l37_in (n+1) (plcs p ws 0) (j:Int)=some (p w):=by
  rw[in_val n _ (Nat.le_trans (plcs_len p ws 0) hL)]
  refine congrArg some ?_
  rw[Bool.eq_iff_iff,decide_eq_true_eq,plcs_mem]
  constructor
  · rintro ⟨k,e,x,hx,hp⟩
    obtain rfl:j=k:=by omega
    rw[h] at hx
    cases hx;exact hp
  · intro hp;exact ⟨j,by omega,w,h,hp⟩
theorem back_l17 (n:Nat) (a b c:Sta) (ws:List Wat) (hL:ws.length≤12):∀(d j f:Nat),j+d=ws.length→d<f →
    l37_WatchBack_l17 (n+1) f (plcs (upB a b) ws 0,plcs (upB b a) ws 0,plcs (upB b c) ws 0,plcs (upB c b) ws 0,plcs (upB a c) ws 0,plcs (upB c a) ws 0,plcs (ringsB a) ws 0,plcs (ringsB c) ws 0,(ws.length:Int),(j:Int),())=some (.inl ()):=by
  intro d
  induction d with
  | zero =>
    intro j f hk hf
    obtain ⟨f,rfl⟩:∃g,f=g+1:=⟨f-1,by omega⟩
    rw[l37_back_sh,decide_eq_false (by omega),tff]
  | succ d ih =>
    intro j f hk hf
    obtain ⟨f,rfl⟩:∃g,f=g+1:=⟨f-1,by omega⟩
    obtain ⟨w,hw⟩:∃w,ws[j]? = some w:=⟨ws[j],List.getElem?_eq_getElem (by omega)⟩
    have next:=ih (j+1) f (by omega) (by omega)
    rw[show ((j+1:Nat):Int)=(j:Int)+1 by omega] at next
    have e:=fun p=>in_plcs n p ws (by omega) hw
    rw[l37_back_sh,decide_eq_true (show (j:Int)<(ws.length:Int) by omega),tft]
    have e1:=e (upB a b);have e2:=e (upB b a);have e3:=e (upB b c);have e4:=e (upB c b);have e5:=e (upB a c);have e6:=e (upB c a);have e7:=e (ringsB a);have e8:=e (ringsB c)
    have hw64:IntKind.wrap .i64 ((j:Int)+1)=(j:Int)+1:=w64 (by omega) (by omega)
    simp only[upB] at e1 e2 e3 e4 e5 e6
    generalize ringsB a w=x at *
    generalize ringsB b w=y at *
    generalize ringsB c w=z at *
    cases x<;>cases y<;>cases z<;>simp only[WB1,WB2,WB3,WB4,WB5,WB6,WB7,WB8,WB9,WB10,e1,e2,e3,e4,e5,e6,e7,e8,obs,hw64,next,Bool.not_true,Bool.not_false,Bool.and_true,Bool.and_false,Bool.true_and,Bool.false_and,Bool.true_beq,Bool.false_beq,beq_self_eq_true,tft,tff]
theorem watchBack_true (n:Nat) (a b c:Sta) (ws:List Wat) (ha:Wf tyState a) (hb:Wf tyState b) (hc:Wf tyState c) (hws:Wf (.slice tyWatch) ws):l37_WatchBack (n+41) a b c ws=some true:=by
  have wa:=sta_wf ha
  have wb:=sta_wf hb
  have wc:=sta_wf hc
  have hW:WsW ws:=⟨fun w hw=>fr_wf (hws.2 w hw).2⟩
  rw[l37_WatchBack_eq,l37_lives_true n,obs,Bool.not_true,tff]
  rcases l17_small (n+37) wa with h | ⟨h,_⟩
  · rw[h];rfl
  rw[h,obs,show (decide ((1:Int)=0))=false from rfl,tff]
  rcases l17_small (n+37) wb with h | ⟨h,_⟩
  · rw[h];rfl
  rw[h,obs,show (decide ((1:Int)=0))=false from rfl,tff]
  rcases l17_small (n+37) wc with h | ⟨h,_⟩
  · rw[h];rfl
  rw[h,obs,show (decide ((1:Int)=0))=false from rfl,tff]
  rcases l37_small (n+38) ws (fun w hw=>ask_len (hws.2 w hw).1) with h | ⟨h,hlen⟩
  · rw[h];rfl
  rw[h,obs,show (decide ((1:Int)=0))=false from rfl,tff,tfd]
  by_cases h12:(12:Int)<(ws.length:Int)
  · rw[if_pos h12]
  rw[if_neg h12,stt_check (n+26) wa,obs,tfn]
  by_cases oa:StaOk a
  case neg=>rw[if_neg oa];rfl
  rw[if_pos oa,show (decide ((0:Int)=0))=true from rfl,tft,stt_check (n+26) wb,obs,tfn]
  by_cases ob:StaOk b
  case neg=>rw[if_neg ob];rfl
  rw[if_pos ob,show (decide ((0:Int)=0))=true from rfl,tft,stt_check (n+26) wc,obs,tfn]
  by_cases oc:StaOk c
  case neg=>rw[if_neg oc];rfl
  rw[if_pos oc,show (decide ((0:Int)=0))=true from rfl,tft]
  have tv:∀ {x y:Sta},StaOk x→StaOk y→turnV x y ws=(plcs (upB x y) ws 0,(plcs (upB y x) ws 0,0)):=fun hx hy=>by
    unfold turnV;rw[if_neg (by omega),if_pos ⟨hx,hy⟩]
  have rv:∀ {x:Sta},StaOk x→ringsV x ws=(plcs (ringsB x) ws 0,0):=fun hx=>by
    unfold ringsV;rw[if_neg (by omega),if_pos hx]
  have nil:plcs (upB a a) ws 0=[]:=by
    rw[List.eq_nil_iff_forall_not_mem]
    intro z hz
    obtain ⟨_,_,x,_,hp⟩:=(plcs_mem _ _ _ _).1 hz
    unfold upB at hp
    rw[Bool.and_not_self] at hp
    cases hp
  have l1:=plcs_len (upB a b) ws 0
  have l2:=plcs_len (upB b a) ws 0
  rw[watch_turned (n+11) wa wb hW,obs,watch_turned (n+11) wb wc hW,obs,watch_turned (n+11) wa wc hW,obs,watch_turned (n+11) wb wa hW,obs,watch_turned (n+11) wa wa hW,obs,watch_rings (n+12) wa hW,obs,watch_rings (n+12) wc hW,obs,
    tv oa ob,tv ob oc,tv oa oc,tv ob oa,tv oa oa,rv oa,rv oc,nil]
  simp only[decide_true,Bool.not_true,tff,List.length_nil,r06_same_refl (n+39) (plcs (upB a b) ws 0) (by omega),r06_same_refl (n+39) (plcs (upB b a) ws 0) (by omega),obs]
  rw[show (decide (IntKind.wrap .i64 ((((0:Nat):Int))+(((0:Nat):Int)))=(0:Int)))=true by rw[w64 (by omega) (by omega)];rfl,Bool.not_true,tff]
  have:=back_l17 (n+39) a b c ws (by omega) ws.length 0 loopFuel (by omega) (by unfold loopFuel;omega)
  have e:l37_WatchBack_l17 (n+40) loopFuel (plcs (upB a b) ws 0,plcs (upB b a) ws 0,plcs (upB b c) ws 0,plcs (upB c b) ws 0,plcs (upB a c) ws 0,plcs (upB c a) ws 0,plcs (ringsB a) ws 0,plcs (ringsB c) ws 0,(ws.length:Int),(0:Int),())=_:=this
  rw[e,obs,selim_inl]
end Go.Proofs.YtefpnjjbopdplaaGreatDoor
