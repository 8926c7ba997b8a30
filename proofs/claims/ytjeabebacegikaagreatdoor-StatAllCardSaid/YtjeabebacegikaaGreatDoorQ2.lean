/-
  Plain proofs about the functions of this seat, part 2 of 2.
-/
import Derived.Test.YtjeabebacegikaaGreatDoorQ1
import Derived.Test.YtjeabebacegikaaGreatDoorTr
import Derived.Test.YtjeabebacegikaaGreatDoorFlatM3
namespace Go.Proofs.YtjeabebacegikaaGreatDoor
open Go.Flat Go.Plim
set_option linter.unusedVariables false
set_option linter.unusedSimpArgs false
theorem eq_sl_Equal_Label_l (n:Nat) (a b:List Lab) (hL:a.length≤9223372036854775807):∀(ra rb pa pb:List Lab) (f:Nat) (ix len:Int),a=pa++ra→b=pb++rb→pa.length=pb.length→ra.length=rb.length→ix=pa.length→len=a.length→ra.length<f →
    sl_Equal_Label_l4 n f (a,b,len,ix,())=some (if ra=rb then .inl () else .inr false):=by
  intro ra
  induction ra with
  | nil =>
    intro rb pa pb f ix len ha hb hp hr hi hn hf
    obtain ⟨f,rfl⟩:∃g,f=g+1:=⟨f-1,by simp at hf;omega⟩
    have e:rb=[]:=List.length_eq_zero_iff.1 (by simpa using hr.symm)
    subst e
    rw[sl_Equal_Label_l4_eq,decide_eq_false (idxe ha hi hn),tff,if_pos rfl]
  | cons x ra ih =>
    intro rb pa pb f ix len ha hb hp hr hi hn hf
    obtain ⟨f,rfl⟩:∃g,f=g+1:=⟨f-1,by simp at hf;omega⟩
    cases rb with
    | nil=>simp at hr
    | cons y rb =>
      have hlen:=congrArg List.length ha
      simp at hlen
      rw[sl_Equal_Label_l4_eq,decide_eq_true (idx ha hi hn),tft,at_mid ha hi,at_mid hb (by omega)]
      simp only[obs,labEq]
      rw[w64 (x:=ix+1) (by omega) (by omega)]
      by_cases h:x=y
      · subst h
        simp only[decide_true,Bool.not_true,tff]
        rw[ih rb (pa++[x]) (pb++[x]) f (ix+1) len (idxl ha) (idxl hb) (by simp;omega) (by simpa using hr) (idxs hi) hn (by simp at hf;omega)]
        simp
      · rw[if_neg (by simp[h])]
        simp only[decide_eq_false h,Bool.not_false,tft]
theorem eq_sl_Equal_Label (n:Nat) (a b:List Lab) (hL:a.length≤9223372036854775807):sl_Equal_Label (n+1) a b=some (decide (a=b)):=by
  rw[sl_Equal_Label_eq]
  by_cases h:a.length=b.length
  · rw[decide_eq_true (show ((a.length:Nat):Int)=(b.length:Nat) by omega)]
    simp only[Bool.not_true,tff]
    rw[eq_sl_Equal_Label_l n a b hL a b [] [] loopFuel 0 _ rfl rfl rfl h rfl rfl (by unfold loopFuel;omega)]
    by_cases h':a=b
    · rw[if_pos h',decide_eq_true h'];rfl
    · rw[if_neg h',decide_eq_false h'];rfl
  · rw[decide_eq_false (show ¬((a.length:Nat):Int)=(b.length:Nat) by omega),decide_eq_false (fun k:a=b=>h (by rw[k]))]
    rfl
theorem eq_sl_Equal_Event_l (n:Nat) (a b:List Ev) (hL:a.length≤9223372036854775807):∀(ra rb pa pb:List Ev) (f:Nat) (ix len:Int),a=pa++ra→b=pb++rb→pa.length=pb.length→ra.length=rb.length→ix=pa.length→len=a.length→ra.length<f →
    sl_Equal_Event_l4 n f (a,b,len,ix,())=some (if ra=rb then .inl () else .inr false):=by
  intro ra
  induction ra with
  | nil =>
    intro rb pa pb f ix len ha hb hp hr hi hn hf
    obtain ⟨f,rfl⟩:∃g,f=g+1:=⟨f-1,by simp at hf;omega⟩
    have e:rb=[]:=List.length_eq_zero_iff.1 (by simpa using hr.symm)
    subst e
    rw[sl_Equal_Event_l4_eq,decide_eq_false (idxe ha hi hn),tff,if_pos rfl]
  | cons x ra ih =>
    intro rb pa pb f ix len ha hb hp hr hi hn hf
    obtain ⟨f,rfl⟩:∃g,f=g+1:=⟨f-1,by simp at hf;omega⟩
    cases rb with
    | nil=>simp at hr
    | cons y rb =>
      have hlen:=congrArg List.length ha
      simp at hlen
      rw[sl_Equal_Event_l4_eq,decide_eq_true (idx ha hi hn),tft,at_mid ha hi,at_mid hb (by omega)]
      simp only[obs,evEq]
      rw[w64 (x:=ix+1) (by omega) (by omega)]
      by_cases h:x=y
      · subst h
        simp only[decide_true,Bool.not_true,tff]
        rw[ih rb (pa++[x]) (pb++[x]) f (ix+1) len (idxl ha) (idxl hb) (by simp;omega) (by simpa using hr) (idxs hi) hn (by simp at hf;omega)]
        simp
      · rw[if_neg (by simp[h])]
        simp only[decide_eq_false h,Bool.not_false,tft]
theorem eq_sl_Equal_Event (n:Nat) (a b:List Ev) (hL:a.length≤9223372036854775807):sl_Equal_Event (n+1) a b=some (decide (a=b)):=by
  rw[sl_Equal_Event_eq]
  by_cases h:a.length=b.length
  · rw[decide_eq_true (show ((a.length:Nat):Int)=(b.length:Nat) by omega)]
    simp only[Bool.not_true,tff]
    rw[eq_sl_Equal_Event_l n a b hL a b [] [] loopFuel 0 _ rfl rfl rfl h rfl rfl (by unfold loopFuel;omega)]
    by_cases h':a=b
    · rw[if_pos h',decide_eq_true h'];rfl
    · rw[if_neg h',decide_eq_false h'];rfl
  · rw[decide_eq_false (show ¬((a.length:Nat):Int)=(b.length:Nat) by omega),decide_eq_false (fun k:a=b=>h (by rw[k]))]
    rfl
theorem eq_sl_Equal_Slot_l (n:Nat) (a b:List Slo) (hL:a.length≤9223372036854775807):∀(ra rb pa pb:List Slo) (f:Nat) (ix len:Int),a=pa++ra→b=pb++rb→pa.length=pb.length→ra.length=rb.length→ix=pa.length→len=a.length→ra.length<f →
    sl_Equal_Slot_l4 n f (a,b,len,ix,())=some (if ra=rb then .inl () else .inr false):=by
  intro ra
  induction ra with
  | nil =>
    intro rb pa pb f ix len ha hb hp hr hi hn hf
    obtain ⟨f,rfl⟩:∃g,f=g+1:=⟨f-1,by simp at hf;omega⟩
    have e:rb=[]:=List.length_eq_zero_iff.1 (by simpa using hr.symm)
    subst e
    rw[sl_Equal_Slot_l4_eq,decide_eq_false (idxe ha hi hn),tff,if_pos rfl]
  | cons x ra ih =>
    intro rb pa pb f ix len ha hb hp hr hi hn hf
    obtain ⟨f,rfl⟩:∃g,f=g+1:=⟨f-1,by simp at hf;omega⟩
    cases rb with
    | nil=>simp at hr
    | cons y rb =>
      have hlen:=congrArg List.length ha
      simp at hlen
      rw[sl_Equal_Slot_l4_eq,decide_eq_true (idx ha hi hn),tft,at_mid ha hi,at_mid hb (by omega)]
      simp only[obs,sloEq]
      rw[w64 (x:=ix+1) (by omega) (by omega)]
      by_cases h:x=y
      · subst h
        simp only[decide_true,Bool.not_true,tff]
        rw[ih rb (pa++[x]) (pb++[x]) f (ix+1) len (idxl ha) (idxl hb) (by simp;omega) (by simpa using hr) (idxs hi) hn (by simp at hf;omega)]
        simp
      · rw[if_neg (by simp[h])]
        simp only[decide_eq_false h,Bool.not_false,tft]
theorem eq_sl_Equal_Slot (n:Nat) (a b:List Slo) (hL:a.length≤9223372036854775807):sl_Equal_Slot (n+1) a b=some (decide (a=b)):=by
  rw[sl_Equal_Slot_eq]
  by_cases h:a.length=b.length
  · rw[decide_eq_true (show ((a.length:Nat):Int)=(b.length:Nat) by omega)]
    simp only[Bool.not_true,tff]
    rw[eq_sl_Equal_Slot_l n a b hL a b [] [] loopFuel 0 _ rfl rfl rfl h rfl rfl (by unfold loopFuel;omega)]
    by_cases h':a=b
    · rw[if_pos h',decide_eq_true h'];rfl
    · rw[if_neg h',decide_eq_false h'];rfl
  · rw[decide_eq_false (show ¬((a.length:Nat):Int)=(b.length:Nat) by omega),decide_eq_false (fun k:a=b=>h (by rw[k]))]
    rfl
theorem eq_r05_Same_l (n:Nat) (a b:List Lab) (hL:a.length≤9223372036854775807):∀(ra rb pa pb:List Lab) (f:Nat) (ix len:Int),a=pa++ra→b=pb++rb→pa.length=pb.length→ra.length=rb.length→ix=pa.length→len=a.length→ra.length<f →
    r05_Same_l4 n f (a,b,len,ix,())=some (if ra=rb then .inl () else .inr false):=by
  intro ra
  induction ra with
  | nil =>
    intro rb pa pb f ix len ha hb hp hr hi hn hf
    obtain ⟨f,rfl⟩:∃g,f=g+1:=⟨f-1,by simp at hf;omega⟩
    have e:rb=[]:=List.length_eq_zero_iff.1 (by simpa using hr.symm)
    subst e
    rw[r05_Same_l4_eq,decide_eq_false (idxe ha hi hn),tff,if_pos rfl]
  | cons x ra ih =>
    intro rb pa pb f ix len ha hb hp hr hi hn hf
    obtain ⟨f,rfl⟩:∃g,f=g+1:=⟨f-1,by simp at hf;omega⟩
    cases rb with
    | nil=>simp at hr
    | cons y rb =>
      have hlen:=congrArg List.length ha
      simp at hlen
      rw[r05_Same_l4_eq,decide_eq_true (idx ha hi hn),tft,at_mid ha hi,at_mid hb (by omega)]
      simp only[obs,labEq]
      rw[w64 (x:=ix+1) (by omega) (by omega)]
      by_cases h:x=y
      · subst h
        simp only[decide_true,Bool.not_true,tff]
        rw[ih rb (pa++[x]) (pb++[x]) f (ix+1) len (idxl ha) (idxl hb) (by simp;omega) (by simpa using hr) (idxs hi) hn (by simp at hf;omega)]
        simp
      · rw[if_neg (by simp[h])]
        simp only[decide_eq_false h,Bool.not_false,tft]
theorem eq_r05_Same (n:Nat) (a b:List Lab) (hL:a.length≤9223372036854775807):r05_Same (n+1) a b=some (decide (a=b)):=by
  rw[r05_Same_eq]
  by_cases h:a.length=b.length
  · rw[decide_eq_true (show ((a.length:Nat):Int)=(b.length:Nat) by omega)]
    simp only[Bool.not_true,tff]
    rw[eq_r05_Same_l n a b hL a b [] [] loopFuel 0 _ rfl rfl rfl h rfl rfl (by unfold loopFuel;omega)]
    by_cases h':a=b
    · rw[if_pos h',decide_eq_true h'];rfl
    · rw[if_neg h',decide_eq_false h'];rfl
  · rw[decide_eq_false (show ¬((a.length:Nat):Int)=(b.length:Nat) by omega),decide_eq_false (fun k:a=b=>h (by rw[k]))]
    rfl
theorem eq_r12_SameList_l (n:Nat) (a b:List Ev) (hL:a.length≤9223372036854775807):∀(ra rb pa pb:List Ev) (f:Nat) (ix len:Int),a=pa++ra→b=pb++rb→pa.length=pb.length→ra.length=rb.length→ix=pa.length→len=a.length→ra.length<f →
    r12_SameList_l4 n f (a,b,len,ix,())=some (if ra=rb then .inl () else .inr false):=by
  intro ra
  induction ra with
  | nil =>
    intro rb pa pb f ix len ha hb hp hr hi hn hf
    obtain ⟨f,rfl⟩:∃g,f=g+1:=⟨f-1,by simp at hf;omega⟩
    have e:rb=[]:=List.length_eq_zero_iff.1 (by simpa using hr.symm)
    subst e
    rw[r12_SameList_l4_eq,decide_eq_false (idxe ha hi hn),tff,if_pos rfl]
  | cons x ra ih =>
    intro rb pa pb f ix len ha hb hp hr hi hn hf
    obtain ⟨f,rfl⟩:∃g,f=g+1:=⟨f-1,by simp at hf;omega⟩
    cases rb with
    | nil=>simp at hr
    | cons y rb =>
      have hlen:=congrArg List.length ha
      simp at hlen
      rw[r12_SameList_l4_eq,decide_eq_true (idx ha hi hn),tft,at_mid ha hi,at_mid hb (by omega)]
      simp only[obs,evEq]
      rw[w64 (x:=ix+1) (by omega) (by omega)]
      by_cases h:x=y
      · subst h
        simp only[decide_true,Bool.not_true,tff]
        rw[ih rb (pa++[x]) (pb++[x]) f (ix+1) len (idxl ha) (idxl hb) (by simp;omega) (by simpa using hr) (idxs hi) hn (by simp at hf;omega)]
        simp
      · rw[if_neg (by simp[h])]
        simp only[decide_eq_false h,Bool.not_false,tft]
theorem eq_r12_SameList (n:Nat) (a b:List Ev) (hL:a.length≤9223372036854775807):r12_SameList (n+1) a b=some (decide (a=b)):=by
  rw[r12_SameList_eq]
  by_cases h:a.length=b.length
  · rw[decide_eq_true (show ((a.length:Nat):Int)=(b.length:Nat) by omega)]
    simp only[Bool.not_true,tff]
    rw[eq_r12_SameList_l n a b hL a b [] [] loopFuel 0 _ rfl rfl rfl h rfl rfl (by unfold loopFuel;omega)]
    by_cases h':a=b
    · rw[if_pos h',decide_eq_true h'];rfl
    · rw[if_neg h',decide_eq_false h'];rfl
  · rw[decide_eq_false (show ¬((a.length:Nat):Int)=(b.length:Nat) by omega),decide_eq_false (fun k:a=b=>h (by rw[k]))]
    rfl
theorem eq_r13_Same_l (n:Nat) (a b:List Slo) (hL:a.length≤9223372036854775807):∀(ra rb pa pb:List Slo) (f:Nat) (ix len:Int),a=pa++ra→b=pb++rb→pa.length=pb.length→ra.length=rb.length→ix=pa.length→len=a.length→ra.length<f →
    r13_Same_l4 n f (a,b,len,ix,())=some (if ra=rb then .inl () else .inr false):=by
  intro ra
  induction ra with
  | nil =>
    intro rb pa pb f ix len ha hb hp hr hi hn hf
    obtain ⟨f,rfl⟩:∃g,f=g+1:=⟨f-1,by simp at hf;omega⟩
    have e:rb=[]:=List.length_eq_zero_iff.1 (by simpa using hr.symm)
    subst e
    rw[r13_Same_l4_eq,decide_eq_false (idxe ha hi hn),tff,if_pos rfl]
  | cons x ra ih =>
    intro rb pa pb f ix len ha hb hp hr hi hn hf
    obtain ⟨f,rfl⟩:∃g,f=g+1:=⟨f-1,by simp at hf;omega⟩
    cases rb with
    | nil=>simp at hr
    | cons y rb =>
      have hlen:=congrArg List.length ha
      simp at hlen
      rw[r13_Same_l4_eq,decide_eq_true (idx ha hi hn),tft,at_mid ha hi,at_mid hb (by omega)]
      simp only[obs,sloEq]
      rw[w64 (x:=ix+1) (by omega) (by omega)]
      by_cases h:x=y
      · subst h
        simp only[decide_true,Bool.not_true,tff]
        rw[ih rb (pa++[x]) (pb++[x]) f (ix+1) len (idxl ha) (idxl hb) (by simp;omega) (by simpa using hr) (idxs hi) hn (by simp at hf;omega)]
        simp
      · rw[if_neg (by simp[h])]
        simp only[decide_eq_false h,Bool.not_false,tft]
theorem eq_r13_Same (n:Nat) (a b:List Slo) (hL:a.length≤9223372036854775807):r13_Same (n+1) a b=some (decide (a=b)):=by
  rw[r13_Same_eq]
  by_cases h:a.length=b.length
  · rw[decide_eq_true (show ((a.length:Nat):Int)=(b.length:Nat) by omega)]
    simp only[Bool.not_true,tff]
    rw[eq_r13_Same_l n a b hL a b [] [] loopFuel 0 _ rfl rfl rfl h rfl rfl (by unfold loopFuel;omega)]
    by_cases h':a=b
    · rw[if_pos h',decide_eq_true h'];rfl
    · rw[if_neg h',decide_eq_false h'];rfl
  · rw[decide_eq_false (show ¬((a.length:Nat):Int)=(b.length:Nat) by omega),decide_eq_false (fun k:a=b=>h (by rw[k]))]
    rfl
noncomputable instance decSer (a b:Ser):Decidable (a=b):=Classical.propDecidable _
structure SerM (s:Ser):Prop where
  l:s.1.length≤9223372036854775807
  r:s.2.2.1.2.2.length≤9223372036854775807
  a:s.2.2.2.1.1.length≤9223372036854775807
  b:s.2.2.2.1.2.1.length≤9223372036854775807
  d:s.2.2.2.1.2.2.length≤9223372036854775807
theorem series_same (n:Nat) (a b:Ser) (h:SerM a):series_Same (n+3) a b=some (decide (a=b)):=by
  rw[series_Same_eq,label_Same_eq,raw_Same_eq,eq_sl_Equal_Label n _ _ h.l,eq_sl_Equal_Event n _ _ h.r,eq_sl_Equal_Slot (n+1) _ _ h.a,eq_sl_Equal_Slot (n+1) _ _ h.b,eq_sl_Equal_Slot (n+1) _ _ h.d]
  obtain ⟨a1,a2,⟨r1,r2,r3⟩,⟨t1,t2,t3⟩,a5⟩:=a
  obtain ⟨b1,b2,⟨q1,q2,q3⟩,⟨u1,u2,u3⟩,b5⟩:=b
  simp only[obs,sloEq,tfd]
  by_cases h1:a1=b1
  case neg=>simp[h1]
  by_cases h2:a2=b2
  case neg=>simp[h1,h2]
  by_cases h3:r1=q1
  case neg=>simp[h1,h2,h3]
  by_cases h4:r2=q2
  case neg=>simp[h1,h2,h3,h4]
  by_cases h5:r3=q3
  case neg=>simp[h1,h2,h3,h4,h5]
  by_cases h6:t1=u1
  case neg=>simp[h1,h2,h3,h4,h5,h6]
  by_cases h7:t2=u2
  case neg=>simp[h1,h2,h3,h4,h5,h6,h7]
  by_cases h8:t3=u3
  case neg=>simp[h1,h2,h3,h4,h5,h6,h7,h8]
  by_cases h9:a5=b5
  case neg=>simp[h1,h2,h3,h4,h5,h6,h7,h8,h9]
  simp[h1,h2,h3,h4,h5,h6,h7,h8,h9]
theorem r15_same (n:Nat) (a b:Ser) (h:SerM a):r15_Same (n+3) a b=some (decide (a=b)):=by
  rw[r15_Same_eq,r12_Same_eq,r14_Same_eq,eq_r05_Same (n+1) _ _ h.l,eq_r12_SameList n _ _ h.r,eq_r13_Same n _ _ h.a,eq_r13_Same n _ _ h.b,eq_r13_Same n _ _ h.d]
  obtain ⟨a1,a2,⟨r1,r2,r3⟩,⟨t1,t2,t3⟩,a5⟩:=a
  obtain ⟨b1,b2,⟨q1,q2,q3⟩,⟨u1,u2,u3⟩,b5⟩:=b
  simp only[obs,sloEq,tfd,tfn]
  by_cases h1:a1=b1
  case neg=>simp[h1]
  by_cases h2:a2=b2
  case neg=>simp[h1,h2]
  by_cases h3:r1=q1
  case neg=>simp[h1,h2,h3]
  by_cases h4:r2=q2
  case neg=>simp[h1,h2,h3,h4]
  by_cases h5:r3=q3
  case neg=>simp[h1,h2,h3,h4,h5]
  by_cases h6:t1=u1
  case neg=>simp[h1,h2,h3,h4,h5,h6]
  by_cases h7:t2=u2
  case neg=>simp[h1,h2,h3,h4,h5,h6,h7]
  by_cases h8:t3=u3
  case neg=>simp[h1,h2,h3,h4,h5,h6,h7,h8]
  by_cases h9:a5=b5
  case neg=>simp[h1,h2,h3,h4,h5,h6,h7,h8,h9]
  simp[h1,h2,h3,h4,h5,h6,h7,h8,h9]
def oldV (now w m:Int):Int×Int:=if OfP now w∧1≤m∧m≤4096 then (if 0<now / w+1-m then now / w+1-m else 0,0) else (0,1)
theorem wi_oldest (n:Nat) (now w m:Int):wi_Oldest (n+4) now w m=some (oldV now w m):=by
  rw[wi_Oldest_eq,wi_of n now w,wi_in_int_eq]
  unfold oldV
  by_cases h:OfP now w
  case neg=>rw[if_neg h,if_neg (fun k=>h k.1)];rfl
  rw[if_pos h]
  have hq:=quo_range h
  simp only[obs,decide_true,Bool.not_true,tff]
  by_cases h1:1≤m
  case neg=>simp[h,h1]
  by_cases h2:m≤4096
  case neg=>simp[h,h1,h2]
  rw[w64 (x:=now / w+1) (by omega) (by omega),w64 (x:=now / w+1-m) (by omega) (by omega)]
  simp[h,h1,h2]
theorem r09_oldest (n:Nat) (now w m:Int):r09_Oldest (n+3) now w m=some (oldV now w m):=by
  rw[r09_Oldest_eq,r09_of n now w]
  unfold oldV
  by_cases h:OfP now w
  case neg=>rw[if_neg h,if_neg (fun k=>h k.1)];rfl
  rw[if_pos h]
  have hq:=quo_range h
  simp only[obs,decide_true,Bool.not_true,tff,tfd]
  by_cases h1:m<1
  · rw[if_pos h1,if_neg (by omega)]
  rw[if_neg h1]
  by_cases h2:4096<m
  · rw[if_pos h2,if_neg (by omega)]
  rw[if_neg h2,w64 (x:=now / w-m) (by omega) (by omega),w64 (x:=now / w-m+1) (by omega) (by omega),if_pos (show OfP now w∧1≤m∧m≤4096 from ⟨h,by omega,by omega⟩)]
  have e:(if now / w-m+1<0 then (0:Int) else now / w-m+1)=if 0<now / w+1-m then now / w+1-m else 0:=by
    split<;>split<;>omega
  rw[e]
noncomputable def goneV (t now w m:Int):Bool:=decide (OfP t w∧(oldV now w m).2=0∧t / w<(oldV now w m).1)
theorem wi_gone (n:Nat) (t now w m:Int):wi_Gone (n+5) t now w m=some (goneV t now w m):=by
  rw[wi_Gone_eq,wi_of (n+1) t w,wi_oldest n now w m]
  unfold goneV
  simp only[obs,tfd]
  by_cases h:OfP t w
  case neg=>rw[if_neg h,if_neg (by simp),decide_eq_false (fun k=>h k.1)]
  rw[if_pos h,if_pos rfl]
  by_cases h1:(oldV now w m).2=0
  · rw[if_pos h1];exact congrArg some (decide_eq_decide.2 ⟨fun k=>⟨h,h1,k⟩,fun k=>k.2.2⟩)
  · rw[if_neg h1,decide_eq_false (fun k=>h1 k.2.1)]
theorem r09_gone (n:Nat) (t now w m:Int):r09_Gone (n+4) t now w m=some (goneV t now w m):=by
  rw[r09_Gone_eq,r09_of (n+1) t w,r09_oldest n now w m]
  unfold goneV
  simp only[obs,tfd]
  by_cases h:OfP t w
  case neg=>rw[if_neg h,if_neg (by simp),decide_eq_false (fun k=>h k.1)]
  rw[if_pos h,if_pos rfl]
  by_cases h1:(oldV now w m).2=0
  · rw[if_pos h1];exact congrArg some (decide_eq_decide.2 ⟨fun k=>⟨h,h1,k⟩,fun k=>k.2.2⟩)
  · rw[if_neg h1,decide_eq_false (fun k=>h1 k.2.1)]
noncomputable def deadV (c:Conf) (last now:Int):Bool :=
  decide (OkC c)&&(goneV last now c.2.1.1 c.2.2.1.1&&(goneV last now c.2.1.2.1 c.2.2.1.2.1&&goneV last now c.2.1.2.2 c.2.2.1.2.2))
theorem series_dead (n:Nat) (c:Conf) (last now:Int):series_Dead (n+6) c last now=some (deadV c last now):=by
  rw[series_Dead_eq,conf_check (n+2) c,wi_gone n,wi_gone n,wi_gone n]
  unfold deadV
  by_cases h:OkC c
  case neg=>rw[if_neg h,decide_eq_false h];rfl
  rw[if_pos h,decide_eq_true h]
  simp only[obs,decide_true,tft,Bool.true_and]
  cases goneV last now c.2.1.1 c.2.2.1.1<;>cases goneV last now c.2.1.2.1 c.2.2.1.2.1<;>cases goneV last now c.2.1.2.2 c.2.2.1.2.2<;>rfl
theorem r15_dead (n:Nat) (c:Conf) (last now:Int):r15_Dead (n+5) c last now=some (deadV c last now):=by
  rw[r15_Dead_eq,r10_check (n+1) c,r09_gone n,r09_gone n,r09_gone n]
  unfold deadV
  by_cases h:OkC c
  case neg=>rw[if_neg h,decide_eq_false h];rfl
  rw[if_pos h,decide_eq_true h]
  simp only[obs,decide_true,Bool.not_true,tff,Bool.true_and]
  cases goneV last now c.2.1.1 c.2.2.1.1<;>cases goneV last now c.2.1.2.1 c.2.2.1.2.1<;>cases goneV last now c.2.1.2.2 c.2.2.1.2.2<;>rfl
abbrev Sta:=Conf×(Int×(Int×List Ser))
structure StaW (s:Sta):Prop where
  len:s.2.2.2.length≤9223372036854775807
  ser:∀x∈s.2.2.2,SerW x∧SerM x
def Whole (s:Sta):Prop:=OkC s.1∧(s.2.2.2.length:Int)=s.1.2.2.2.1
noncomputable instance (s):Decidable (Whole s):=Classical.propDecidable _
def LvX (s:Sta) (x:Ser):Prop:=x≠ser0∧(s.2.2.1 = -1∨deadV s.1 x.2.1 s.2.2.1=false)
noncomputable instance (s x):Decidable (LvX s x):=Classical.propDecidable _
def TimeP (t:Int):Prop:=0≤t∧t<35184372088832
instance (t):Decidable (TimeP t):=by unfold TimeP;infer_instance
def Clock (s:Sta):Prop:=TimeP s.2.1∧(s.2.2.1 = -1∨TimeP s.2.2.1)∧s.2.2.1≤s.2.1
instance (s):Decidable (Clock s):=by unfold Clock;infer_instance
def mk (s:Sta):Int:=s.2.1 / s.1.2.1.1*s.1.2.1.1
def Twin (s:Sta) (i:Nat) (x:Ser):Prop:=LvX s x∧∃k,k<i∧∃y,s.2.2.2[k]? = some y∧LvX s y∧y.1=x.1
noncomputable instance (s i x):Decidable (Twin s i x):=Classical.propDecidable _
def RightX (s:Sta) (i:Nat) (x:Ser):Prop:=x=ser0∨(SerOk s.1 x∧0≤x.2.1∧x.2.1<mk s+s.1.2.1.1∧¬Twin s i x)
noncomputable instance (s i x):Decidable (RightX s i x):=Classical.propDecidable _
structure StaOk (s:Sta):Prop where
  whole:Whole s
  clock:Clock s
  right:∀(i:Nat) x,s.2.2.2[i]? = some x→RightX s i x
noncomputable instance (s):Decidable (StaOk s):=Classical.propDecidable _
theorem Whole.len {s:Sta} (h:Whole s):s.2.2.2.length≤65536:=by
  have:=h.1.rng.cap;have:=h.2;omega
theorem at_el {α:Type} {l:List α} {i:Nat} {x:α} (h:l[i]? = some x):at? l (i:Int)=some x:=by
  unfold at?
  rw[decide_eq_true (show (0:Int)≤(i:Int) by omega),Int.toNat_natCast]
  exact h
theorem StaW.at {s:Sta} (h:StaW s) {i:Nat} {x:Ser} (hx:s.2.2.2[i]? = some x):SerW x∧SerM x:=h.ser x (List.mem_of_getElem? hx)
theorem ser0_m:SerM ser0:=⟨by simp[ser0],by simp[ser0,r0w],by simp[ser0],by simp[ser0],by simp[ser0]⟩
theorem st_empty (n:Nat) {x:Ser} (h:SerM x):stt_empty (n+4) x=some (decide (x=ser0)):=by
  have:=series_same n x ser0 h
  rw[stt_empty_eq]
  have e:series_Same (n+3) x ([],((0:Int),(((0:Int),((0:Int),[])),(([],([],[])),((0:Int),z0)))))=some (decide (x=ser0)):=this
  change obind (series_Same (n+3) x ([],((0:Int),(((0:Int),((0:Int),[])),(([],([],[])),((0:Int),z0)))))) _=_
  rw[e];rfl
theorem r17_empty (n:Nat) {x:Ser} (h:SerM x):r17_Empty (n+4) x=some (decide (x=ser0)):=by
  have:=r15_same n x ser0 h
  rw[r17_Empty_eq]
  have e:r15_Same (n+3) x ([],((0:Int),(((0:Int),((0:Int),[])),(([],([],[])),((0:Int),z0)))))=some (decide (x=ser0)):=this
  change obind (r15_Same (n+3) x ([],((0:Int),(((0:Int),((0:Int),[])),(([],([],[])),((0:Int),z0)))))) _=_
  rw[e];rfl
theorem st_lives (n:Nat) {s:Sta} {i:Nat} {x:Ser} (hx:s.2.2.2[i]? = some x) (hm:SerM x):stt_view_lives (n+7) s (i:Int)=some (decide (LvX s x)):=by
  rw[stt_view_lives_eq,at_el hx,obs,st_empty (n+2) hm,obs,tfn,tfd,series_dead n]
  by_cases h:x=ser0
  · rw[if_pos h,decide_eq_false (fun k:LvX s x=>k.1 h)]
  rw[if_neg h,tfd]
  by_cases h1:s.2.2.1 = -1
  · rw[if_pos h1,decide_eq_true (show LvX s x from ⟨h,.inl h1⟩)]
  · rw[if_neg h1]
    cases hd:deadV s.1 x.2.1 s.2.2.1
    · rw[decide_eq_true (show LvX s x from ⟨h,.inr hd⟩)];rfl
    · rw[decide_eq_false (fun k:LvX s x=>by rcases k.2 with k | k;exact h1 k;rw[hd] at k;cases k)];rfl
theorem r17_lives_val (n:Nat) {s:Sta} {i:Nat} {x:Ser} (hx:s.2.2.2[i]? = some x) (hm:SerM x):r17_lives (n+6) s (i:Int)=some (decide (LvX s x)):=by
  rw[r17_lives_eq,at_el hx,obs,r17_empty (n+1) hm,obs,tfn,tfd,obs,r15_dead n]
  by_cases h:x=ser0
  · rw[if_pos h,decide_eq_false (fun k:LvX s x=>k.1 h)]
  rw[if_neg h,tfd]
  by_cases h1:s.2.2.1 = -1
  · rw[if_pos h1,decide_eq_true (show LvX s x from ⟨h,.inl h1⟩)]
  · rw[if_neg h1]
    cases hd:deadV s.1 x.2.1 s.2.2.1
    · rw[decide_eq_true (show LvX s x from ⟨h,.inr hd⟩)];rfl
    · rw[decide_eq_false (fun k:LvX s x=>by rcases k.2 with k | k;exact h1 k;rw[hd] at k;cases k)];rfl
theorem place_l (n:Nat) (is:(Int×Unit)→Option Bool) (p:Nat→Bool) (L:Nat) (hL:L≤1000000) (his:∀k:Nat,k<L→is ((k:Int),())=some (p k)):∀(d k f:Nat),k+d=L→d<f →
    (∃m:Nat,k≤m∧m<L∧p m=true∧(∀j,k≤j→j<m→p j=false)∧stt_view_place_l2 n f (is,(L:Int),(k:Int),())=some (.inr (m:Int))) ∨
    ((∀j,k≤j→j<L→p j=false)∧stt_view_place_l2 n f (is,(L:Int),(k:Int),())=some (.inl ())):=by
  intro d
  induction d with
  | zero =>
    intro k f hk hf
    obtain ⟨f,rfl⟩:∃g,f=g+1:=⟨f-1,by omega⟩
    refine .inr ⟨fun j h1 h2=>by omega,?_⟩
    rw[stt_view_place_l2_eq,decide_eq_false (by omega),tff]
  | succ d ih =>
    intro k f hk hf
    obtain ⟨f,rfl⟩:∃g,f=g+1:=⟨f-1,by omega⟩
    rw[stt_view_place_l2_eq,decide_eq_true (by omega),tft,his k (by omega),obs]
    cases hp:p k
    · rw[tff,w64 (by omega) (by omega),show ((k:Int)+1)=((k+1:Nat):Int) by omega]
      rcases ih (k+1) f (by omega) (by omega) with ⟨m,h1,h2,h3,h4,h5⟩ | ⟨h1,h2⟩
      · exact .inl ⟨m,by omega,h2,h3,fun j q1 q2=>by
          rcases Nat.lt_or_ge k j with q | q
          · exact h4 j (by omega) q2
          · rw[show j=k by omega];exact hp,h5⟩
      · exact .inr ⟨fun j q1 q2=>by
          rcases Nat.lt_or_ge k j with q | q
          · exact h1 j (by omega) q2
          · rw[show j=k by omega];exact hp,h2⟩
    · rw[tft]
      exact .inl ⟨k,Nat.le_refl _,by omega,hp,fun j q1 q2=>by omega,rfl⟩
theorem first_val (n:Nat) (s:Sta) (is:(Int×Unit)→Option Bool) (p:Nat→Bool) (hL:s.2.2.2.length≤1000000) (his:∀k:Nat,k<s.2.2.2.length→is ((k:Int),())=some (p k)) :
    (∃m:Nat,m<s.2.2.2.length∧p m=true∧(∀j,j<m→p j=false)∧stt_view_place (n+1) s is=some (m:Int)) ∨
    ((∀j,j<s.2.2.2.length→p j=false)∧stt_view_place (n+1) s is=some (-1)):=by
  rw[stt_view_place_eq]
  rcases place_l n is p _ hL his s.2.2.2.length 0 loopFuel (by omega) (by unfold loopFuel;omega) with ⟨m,h1,h2,h3,h4,h5⟩ | ⟨h1,h2⟩
  · refine .inl ⟨m,h2,h3,fun j q=>h4 j (by omega) q,?_⟩
    have h5':stt_view_place_l2 n loopFuel (is,(s.2.2.2.length:Int),(0:Int),())=some (.inr (m:Int)):=h5
    rw[h5'];rfl
  · refine .inr ⟨fun j q=>h1 j (by omega) q,?_⟩
    have h2':stt_view_place_l2 n loopFuel (is,(s.2.2.2.length:Int),(0:Int),())=some (.inl ()):=h2
    rw[h2'];rfl
theorem label_same (n:Nat) (a b:List Lab) (h:a.length≤9223372036854775807):label_Same (n+2) a b=some (decide (a=b)):=by
  rw[label_Same_eq,eq_sl_Equal_Label n a b h];rfl
def IsTw (s:Sta) (i k:Nat) (x:Ser):Prop:=k=i∨∃y,s.2.2.2[k]? = some y∧LvX s y∧y.1=x.1
noncomputable instance (s i k x):Decidable (IsTw s i k x):=Classical.propDecidable _
theorem st_twin (n:Nat) {s:Sta} (hw:StaW s) (hL:s.2.2.2.length≤1000000) {i:Nat} {x:Ser} (hx:s.2.2.2[i]? = some x):stt_view_twin (n+9) s (i:Int)=some (decide (Twin s i x)):=by
  have hil:i<s.2.2.2.length:=(List.getElem?_eq_some_iff.1 hx).1
  have hm:=(hw.at hx).2
  rw[stt_view_twin_eq]
  have his:∀k:Nat,k<s.2.2.2.length→(fun y0:Int×Unit=>stt_view_twin_1 (n+8) y0.1 (i:Int) s) ((k:Int),())=some (decide (IsTw s i k x)):=by
    intro k hk
    have hy:s.2.2.2[k]? = some s.2.2.2[k]:=List.getElem?_eq_getElem hk
    generalize s.2.2.2[k]=y at hy
    have hmy:=(hw.at hy).2
    show stt_view_twin_1 (n+8) (k:Int) (i:Int) s=_
    rw[stt_view_twin_1_eq,tfd,st_lives n hy hmy,obs,at_el hy,obs,at_el hx,obs,label_same (n+5) _ _ hmy.l,obs,tfd]
    by_cases h1:k=i
    · rw[if_pos (by rw[h1]),decide_eq_true (show IsTw s i k x from .inl h1)]
    rw[if_neg (by omega)]
    by_cases h2:LvX s y
    · rw[if_pos h2]
      refine congrArg some (decide_eq_decide.2 ⟨fun h3 => .inr ⟨y,hy,h2,h3⟩,fun h3 => ?_⟩)
      rcases h3 with h3 | ⟨z,z1,z2,z3⟩
      · exact absurd h3 h1
      · rw[hy] at z1;cases z1;exact z3
    · rw[if_neg h2,decide_eq_false]
      rintro (h3 | ⟨z,z1,z2,z3⟩)
      · exact h1 h3
      · rw[hy] at z1;cases z1;exact h2 z2
  rcases first_val (n+7) s (fun y0:Int×Unit=>stt_view_twin_1 (n+8) y0.1 (i:Int) s) (fun k=>decide (IsTw s i k x)) hL his with ⟨m,h1,h2,h3,h4⟩ | ⟨h1,h2⟩
  · rw[h4,obs,tfd,st_lives (n+1) hx hm]
    have h2:=of_decide_eq_true h2
    have hmi:m≤i:=by
      rcases Nat.lt_or_ge i m with q | q
      · have:=of_decide_eq_false (h3 i q);exact absurd (.inl rfl) this
      · exact q
    by_cases q:m<i
    · rw[if_pos (by omega),obs]
      refine congrArg some (decide_eq_decide.2 ⟨fun k=>⟨k,m,q,?_⟩,fun k=>k.1⟩)
      exact h2.resolve_left (by omega)
    · rw[if_neg (by omega),decide_eq_false]
      rintro ⟨k1,k,k2,k3⟩
      exact of_decide_eq_false (h3 k (by omega)) (.inr k3)
  · exact absurd (.inl rfl) (of_decide_eq_false (h1 i hil))
theorem mk_range {s:Sta} (h:TimeP s.2.1) (hw:1≤s.1.2.1.1∧s.1.2.1.1≤1099511627776):0≤mk s∧mk s≤s.2.1∧s.2.1<mk s+s.1.2.1.1∧s.2.1-s.2.1 % s.1.2.1.1=mk s:=by
  have e:=Int.mul_ediv_add_emod s.2.1 s.1.2.1.1
  have e1:=Int.emod_nonneg s.2.1 (show s.1.2.1.1≠0 by omega)
  have e2:=Int.emod_lt_of_pos s.2.1 (show 0<s.1.2.1.1 by omega)
  rw[Int.mul_comm] at e
  have e3:0≤mk s:=Int.mul_nonneg (Int.ediv_nonneg h.1 (by omega)) (by omega)
  unfold mk at *
  exact ⟨e3,by omega,by omega,by omega⟩
theorem st_mark (n:Nat) {s:Sta} (h:TimeP s.2.1) (hw:1≤s.1.2.1.1∧s.1.2.1.1≤1099511627776):stt_view_mark (n+1) s=some (mk s):=by
  have:=mk_range h hw
  have:=h.1;have:=h.2
  rw[stt_view_mark_eq,tfd,if_neg (by omega),tmod_nn h.1,w64 (by omega) (by omega),(mk_range h hw).2.2.2]
theorem st_right (n:Nat) {s:Sta} (hw:StaW s) (hh:Whole s) (ht:TimeP s.2.1) {i:Nat} {x:Ser} (hx:s.2.2.2[i]? = some x):stt_view_right (n+12) s (i:Int)=some (decide (RightX s i x)):=by
  have hm:=hw.at hx
  have hr:=hh.1.rng
  have hL:=hh.len
  have hmk:=mk_range ht hr.w0
  have ht1:=ht.1;have ht2:=ht.2;have hw0:=hr.w0
  obtain ⟨m1,m2,m3,m4⟩:=hmk
  rw[stt_view_right_eq,at_el hx,obs,st_empty (n+7) hm.2,obs,tfd,series_check n s.1 hm.1,obs,st_mark (n+10) ht hr.w0,obs,w64 (by omega) (by omega),st_twin (n+2) hw (by omega) hx,obs]
  simp only[tfd]
  by_cases h0:x=ser0
  · rw[if_pos h0,decide_eq_true (show RightX s i x from .inl h0)]
  rw[if_neg h0]
  by_cases h1:SerOk s.1 x
  case neg=>rw[if_neg h1,if_neg (by decide),decide_eq_false (fun q:RightX s i x=>by rcases q with k | k;exact h0 k;exact h1 k.1)]
  rw[if_pos h1,if_pos rfl]
  by_cases h2:0≤x.2.1
  case neg=>rw[if_neg h2,decide_eq_false (fun q:RightX s i x=>by rcases q with k | k;exact h0 k;exact h2 k.2.1)]
  rw[if_pos h2]
  by_cases h3:x.2.1<mk s+s.1.2.1.1
  case neg=>rw[if_neg h3,decide_eq_false (fun q:RightX s i x=>by rcases q with k | k;exact h0 k;exact h3 k.2.2.1)]
  rw[if_pos h3]
  by_cases h4:Twin s i x
  · rw[decide_eq_true h4,decide_eq_false (fun q:RightX s i x=>by rcases q with k | k;exact h0 k;exact k.2.2.2 h4)];rfl
  · rw[decide_eq_false h4,decide_eq_true (show RightX s i x from .inr ⟨h1,h2,h3,h4⟩)];rfl
def sta0:Sta:=(((0:Int),(((0:Int),((0:Int),(0:Int))),(((0:Int),((0:Int),(0:Int))),((0:Int),(0:Int))))),((0:Int),((0:Int),[])))
theorem st_open (n:Nat) (s:Sta):stt_open (n+4) s=some (if Whole s then (s,0) else (sta0,2)):=by
  rw[stt_open_eq,conf_check n s.1,obs,tfn,tfd,tfn,tfd]
  by_cases h:OkC s.1
  case neg=>rw[if_neg h,if_neg (show ¬((2:Int)=0) by decide),if_neg (fun k:Whole s=>h k.1)];rfl
  rw[if_pos h,if_pos rfl]
  by_cases h1:(s.2.2.2.length:Int)=s.1.2.2.2.1
  · rw[if_pos h1,if_pos (show Whole s from ⟨h,h1⟩)]
  · rw[if_neg h1,if_neg (fun k:Whole s=>h1 k.2)];rfl
theorem st_time (n:Nat) (t:Int):stt_time (n+1) t=some (decide (TimeP t)):=by
  rw[stt_time_eq,tfd]
  by_cases h:0≤t
  · rw[if_pos h];exact congrArg some (decide_eq_decide.2 ⟨fun k=>⟨h,k⟩,fun k=>k.2⟩)
  · rw[if_neg h,decide_eq_false (fun k:TimeP t=>h k.1)]
theorem st_clock (n:Nat) (s:Sta):stt_view_clock (n+2) s=some (decide (Clock s)):=by
  rw[stt_view_clock_eq,st_time n,st_time n,obs,obs]
  simp only[tfd]
  by_cases h:TimeP s.2.1
  case neg=>rw[if_neg h,decide_eq_false (fun k:Clock s=>h k.1)]
  rw[if_pos h]
  by_cases h1:s.2.2.1 = -1
  · rw[if_pos h1];exact congrArg some (decide_eq_decide.2 ⟨fun k=>⟨h,.inl h1,k⟩,fun k=>k.2.2⟩)
  rw[if_neg h1]
  by_cases h2:TimeP s.2.2.1
  · rw[if_pos h2];exact congrArg some (decide_eq_decide.2 ⟨fun k=>⟨h,.inr h2,k⟩,fun k=>k.2.2⟩)
  · rw[if_neg h2,decide_eq_false (fun k:Clock s=>by rcases k.2.1 with q | q;exact h1 q;exact h2 q)]
def Wrong (s:Sta) (k:Nat):Prop:=∃x,s.2.2.2[k]? = some x∧¬RightX s k x
noncomputable instance (s k):Decidable (Wrong s k):=Classical.propDecidable _
theorem stt_check (n:Nat) {s:Sta} (hw:StaW s):stt_Check (n+14) s=some (if StaOk s then 0 else 2):=by
  rw[stt_Check_eq,st_open (n+9) s,obs,tfn,tfd]
  by_cases h:Whole s
  case neg=>rw[if_neg h,if_neg (show ¬((sta0,(2:Int)).2=0) by decide),if_neg (fun k:StaOk s=>h k.whole)]
  rw[if_pos h,if_pos rfl,st_clock (n+11) s,obs,tfn,tfd]
  by_cases h1:Clock s
  case neg=>rw[if_neg h1,if_neg (fun k:StaOk s=>h1 k.clock)]
  rw[if_pos h1]
  have hL:=h.len
  have his:∀k:Nat,k<s.2.2.2.length→(fun y2:Int×Unit=>stt_Check_1 (n+13) y2.1 s) ((k:Int),())=some (decide (Wrong s k)):=by
    intro k hk
    have hy:s.2.2.2[k]? = some s.2.2.2[k]:=List.getElem?_eq_getElem hk
    generalize s.2.2.2[k]=y at hy
    show stt_Check_1 (n+13) (k:Int) s=_
    rw[stt_Check_1_eq,st_right n hw h h1.1 hy,obs]
    by_cases q:RightX s k y
    · rw[decide_eq_true q,decide_eq_false (fun z:Wrong s k=>by obtain ⟨x,x1,x2⟩:=z;rw[hy] at x1;cases x1;exact x2 q)];rfl
    · rw[decide_eq_false q,decide_eq_true (show Wrong s k from ⟨y,hy,q⟩)];rfl
  rcases first_val (n+12) s (fun y2:Int×Unit=>stt_Check_1 (n+13) y2.1 s) (fun k=>decide (Wrong s k)) (by omega) his with ⟨m,q1,q2,q3,q4⟩ | ⟨q1,q2⟩
  · rw[show (fun y2:Int×Unit=>stt_Check_1 (n+13) y2.1 (s,(0:Int)).1)=fun y2:Int×Unit=>stt_Check_1 (n+13) y2.1 s from rfl]
    obtain ⟨x,x1,x2⟩:=of_decide_eq_true q2
    rw[q4,obs,tfd,if_pos (by omega),if_neg (fun k:StaOk s=>x2 (k.right m x x1))]
  · rw[show (fun y2:Int×Unit=>stt_Check_1 (n+13) y2.1 (s,(0:Int)).1)=fun y2:Int×Unit=>stt_Check_1 (n+13) y2.1 s from rfl]
    rw[q2,obs,tfd,if_neg (by decide),if_pos]
    refine ⟨h,h1,fun i x hx => ?_⟩
    have:=of_decide_eq_false (q1 i (List.getElem?_eq_some_iff.1 hx).1)
    exact Decidable.byContradiction fun k=>this ⟨x,hx,k⟩
theorem r17_whole_val (n:Nat) (s:Sta):r17_whole (n+4) s=some (decide (Whole s)):=by
  rw[r17_whole_eq,r10_check n s.1,obs,tfd]
  by_cases h:OkC s.1
  case neg=>rw[if_neg h,if_neg (show ¬((2:Int)=0) by decide),decide_eq_false (fun k:Whole s=>h k.1)]
  rw[if_pos h,if_pos rfl]
  exact congrArg some (decide_eq_decide.2 ⟨fun k=>⟨h,k⟩,fun k=>k.2⟩)
theorem small17_l4 (n:Nat) (l:List Ser) (hL:l.length≤1000000) (hm:∀x∈l,SerM x):∀(rest pre:List Ser) (f:Nat) (ix len:Int),l=pre++rest→ix=pre.length→len=l.length→rest.length<f →
    l17_Small_l4 (n+2) f (l,len,ix,())=some (.inl ())∨l17_Small_l4 (n+2) f (l,len,ix,())=some (.inr 0):=by
  intro rest
  induction rest with
  | nil =>
    intro pre f ix len hl hi hn hf
    obtain ⟨f,rfl⟩:∃g,f=g+1:=⟨f-1,by simp at hf;omega⟩
    left
    rw[l17_Small_l4_eq]
    simp only[tfd,if_neg (idxe hl hi hn)]
  | cons x rest ih =>
    intro pre f ix len hl hi hn hf
    obtain ⟨f,rfl⟩:∃g,f=g+1:=⟨f-1,by simp at hf;omega⟩
    have hx:SerM x:=hm x (by rw[hl];simp)
    rw[l17_Small_l4_eq]
    simp only[tfd,if_pos (idx hl hi hn),at_mid hl hi,obs,idxw hl hi (show l.length≤1000000000000 by omega)]
    rcases l15_small n x hx.l with h | h
    · rw[h];right;rfl
    · rw[h]
      simp only[obs,if_neg (show ¬((1:Int)=0) by decide)]
      exact ih (pre++[x]) f (ix+1) len (idxl hl) (idxs hi) hn (by simp at hf;omega)
theorem l17_small (n:Nat) {s:Sta} (hw:StaW s):l17_Small (n+3) s=some 0∨(l17_Small (n+3) s=some 1∧s.2.2.2.length≤8):=by
  rw[l17_Small_eq]
  simp only[tfd]
  by_cases h:(8:Int)<(s.2.2.2.length:Int)
  · rw[if_pos h];exact .inl rfl
  · rw[if_neg h]
    rcases small17_l4 n s.2.2.2 (by omega) (fun x hx=>(hw.ser x hx).2) s.2.2.2 [] loopFuel 0 _ rfl rfl rfl (by unfold loopFuel;omega) with h1 | h1
    · rw[h1];exact .inr ⟨rfl,by omega⟩
    · rw[h1];exact .inl rfl
theorem ser_m' {s:Ser} (h:Wf tySeries s):SerM s:=by
  obtain ⟨h1,h2,h3,⟨h4,h5,h6⟩,h7⟩:=h
  have e1:=h1.1;have e3:=h3.2.2.1;have e4:=h4.1;have e5:=h5.1;have e6:=h6.1
  simp only[maxLen] at e1 e3 e4 e5 e6
  exact ⟨e1,e3,e4,e5,e6⟩
theorem sta_wf {s:Sta} (h:Wf tyState s):StaW s:=by
  obtain ⟨h1,h2,h3,h4⟩:=h
  have e:=h4.1
  simp only[maxLen] at e
  exact ⟨e,fun x hx=>⟨ser_wf (h4.2 x hx),ser_m' (h4.2 x hx)⟩⟩
end Go.Proofs.YtjeabebacegikaaGreatDoor
namespace Go.Proofs.YtjeabebacegikaaGreatDoor
open Go.Flat Go.Plim
set_option linter.unusedVariables false
def OpenInv (c:Conf) (s:Trs) (o:Slo) (l:List Ev):Prop :=
  (l=[]∧o=s0∧∀t,FInv c s [] t)∨∃t,EndsAt l t∧FInv c s l t∧o=(t / c.2.1.1,cellOf (win c.2.1.1 l (t / c.2.1.1)))
theorem OpenInv.fold {c:Conf} {s:Trs} {o:Slo} {l:List Ev} (h:OpenInv c s o l):FoldOk c s:=by
  rcases h with ⟨_,_,h⟩ | ⟨t,_,h,_⟩
  · exact (h 0).ok
  · exact h.ok
end Go.Proofs.YtjeabebacegikaaGreatDoor
namespace Go.Proofs.YtjeabebacegikaaGreatDoor
open Go.Flat Go.Plim
set_option linter.unusedVariables false
set_option linter.unusedSimpArgs false
def rawOf (room:Int) (l:List Ev):Rw :=
  (if (l.length:Int)≤room then 0 else (l.length:Int)-room,(if (l.length:Int)≤room then 0 else ((l[l.length-room.toNat-1]?).getD e0).1,l.drop (l.length-room.toNat)))
structure SerInv (c:Conf) (s:Ser) (l:List Ev):Prop where
  lab:LabOk s.1
  len:l.length≤1000000
  raw:s.2.2.1=rawOf c.1 l
  opn:OpenInv c s.2.2.2.1 s.2.2.2.2 l
  last:(l=[]∧s.2.1 = -1)∨EndsAt l s.2.1
theorem SerInv.foll {c:Conf} {s:Ser} {l:List Ev} (h:SerInv c s l):Foll l:=by
  rcases h.last with ⟨rfl,_⟩ | h
  · exact Foll.nil
  · exact h.foll
theorem ends_getLast {l:List Ev} {t:Int} (h:EndsAt l t):∃e,l.getLast? = some e∧e.1=t:=by
  obtain ⟨x,hx,hxt⟩:=h.last
  rcases List.eq_nil_or_concat l with rfl | ⟨p,y,rfl⟩
  · cases hx
  rw[List.concat_eq_append] at *
  have h1:=h.le y (by simp)
  refine ⟨y,by simp,?_⟩
  rcases List.mem_append.1 hx with q | q
  · have:=(foll_append.1 h.foll).2.2 x q y (by simp);omega
  · simp at q;rw[←q];exact hxt
theorem ends_uniq {l:List Ev} {t u:Int} (h:EndsAt l t) (k:EndsAt l u):t=u:=by
  obtain ⟨e,h1,h2⟩:=ends_getLast h
  obtain ⟨e',k1,k2⟩:=ends_getLast k
  rw[h1] at k1;simp at k1;rw[←h2,←k2,k1]
theorem SerInv.at_ {c:Conf} {s:Ser} {l:List Ev} (h:SerInv c s l) (hl:l≠[]):EndsAt l s.2.1∧FInv c s.2.2.2.1 l s.2.1∧s.2.2.2.2=(s.2.1 / c.2.1.1,cellOf (win c.2.1.1 l (s.2.1 / c.2.1.1))):=by
  have he:=h.last.resolve_left fun k=>hl k.1
  rcases h.opn with k | ⟨t,k1,k2,k3⟩
  · exact absurd k.1 hl
  · have:=ends_uniq he k1
    subst this
    exact ⟨he,k2,k3⟩
theorem factor_pos {a b:Int} (ha:1≤a) (hb:1≤b) (hm:b % a=0):0<b / a:=by
  rcases Int.lt_or_le 0 (b / a) with z | z
  · exact z
  · exfalso
    have e:a*(b / a)=b:=by have:=Int.mul_ediv_add_emod b a;omega
    have:a*(b / a)≤a*0:=Int.mul_le_mul_of_nonneg_left z (by omega)
    omega
noncomputable def findV (s:Sta) (l:List Lab):Option Nat:=s.2.2.2.findIdx? fun x=>decide (x.1=l∧LvX s x)
noncomputable def roomV (s:Sta):Option Nat:=s.2.2.2.findIdx? fun x=>decide (¬LvX s x)
noncomputable def lvAt (s:Sta) (i:Nat):Bool:=match s.2.2.2[i]? with | some x=>decide (LvX s x) | none=>false
noncomputable def liveV (s:Sta):List Nat:=(List.range s.2.2.2.length).filter (lvAt s)
theorem findV_some {s:Sta} {l:List Lab} {i:Nat}:findV s l=some i↔∃x,s.2.2.2[i]? = some x∧x.1=l∧LvX s x∧∀j,j<i→∀y,s.2.2.2[j]? = some y→¬(y.1=l∧LvX s y):=by
  unfold findV
  rw[List.findIdx?_eq_some_iff_getElem]
  constructor
  · rintro ⟨h,h1,h2⟩
    have h1:=of_decide_eq_true h1
    refine ⟨_,List.getElem?_eq_getElem h,h1.1,h1.2,fun j hj y hy => ?_⟩
    obtain ⟨hjl,e⟩:=List.getElem?_eq_some_iff.1 hy
    have:=h2 j hj
    rw[e] at this
    simpa using this
  · rintro ⟨x,hx,h1,h2,h3⟩
    obtain ⟨hl,e⟩:=List.getElem?_eq_some_iff.1 hx
    refine ⟨hl,by rw[e];exact decide_eq_true ⟨h1,h2⟩,fun j hj => ?_⟩
    have:=h3 j hj _ (List.getElem?_eq_getElem (by omega))
    simpa using this
theorem findV_none {s:Sta} {l:List Lab}:findV s l=none↔∀x∈s.2.2.2,¬(x.1=l∧LvX s x):=by
  unfold findV
  rw[List.findIdx?_eq_none_iff]
  simp
theorem roomV_some {s:Sta} {i:Nat}:roomV s=some i↔∃x,s.2.2.2[i]? = some x∧¬LvX s x∧∀j,j<i→∀y,s.2.2.2[j]? = some y→LvX s y:=by
  unfold roomV
  rw[List.findIdx?_eq_some_iff_getElem]
  constructor
  · rintro ⟨h,h1,h2⟩
    refine ⟨_,List.getElem?_eq_getElem h,of_decide_eq_true h1,fun j hj y hy => ?_⟩
    obtain ⟨hjl,e⟩:=List.getElem?_eq_some_iff.1 hy
    have:=h2 j hj
    rw[e] at this
    simpa using this
  · rintro ⟨x,hx,h1,h3⟩
    obtain ⟨hl,e⟩:=List.getElem?_eq_some_iff.1 hx
    refine ⟨hl,by rw[e];exact decide_eq_true h1,fun j hj => ?_⟩
    have:=h3 j hj _ (List.getElem?_eq_getElem (by omega))
    simpa using this
theorem roomV_none {s:Sta}:roomV s=none↔∀x∈s.2.2.2,LvX s x:=by
  unfold roomV
  rw[List.findIdx?_eq_none_iff]
  simp
theorem lvAt_some {s:Sta} {i:Nat} {x:Ser} (h:s.2.2.2[i]? = some x):lvAt s i=decide (LvX s x):=by
  unfold lvAt;rw[h]
theorem live_len (s:Sta):(liveV s).length≤s.2.2.2.length:=by
  have:=List.length_filter_le (lvAt s) (List.range s.2.2.2.length)
  simpa [liveV] using this
structure Goes (s:Sta) (l:List Lab) (e:Ev):Prop where
  st:StaOk s
  lab:LabOk l
  ev:EvOk e
  lo:mk s≤e.1
  hi:e.1<mk s+s.1.2.1.1
inductive PlaceAt (s:Sta) (l:List Lab) (e:Ev):Nat→Ser→Bool→Prop
  | found {i:Nat} {x:Ser} (hf:findV s l=some i) (hx:s.2.2.2[i]? = some x) (hl:x.1=l) (hlv:LvX s x) (ht:x.2.1<e.1):PlaceAt s l e i x false
  | room {i:Nat} (hf:findV s l=none) (hs:e.2.2.2=false) (hr:roomV s=some i):PlaceAt s l e i (l,(-1,(r0w,(emp s.1,s0)))) true
theorem old_none {now w m:Int} (h:OfP now w) (hm:1≤m∧m≤4096):(oldV now w m).2=0:=by
  unfold oldV;rw[if_pos ⟨h,hm.1,hm.2⟩]
def KeepP (o:Int) (r:Int×Int) (s:Slo):Prop:=¬(s.1<o∧(s.1<r.1∨r.2≤s.1))
instance (o r s):Decidable (KeepP o r s):=by unfold KeepP;infer_instance
def fadeT (o:Int) (r:Int×Int) (l:List Slo):List Slo:=l.map fun s=>if KeepP o r s then s else s0
theorem fadeT_len (o r) (l:List Slo):(fadeT o r l).length=l.length:=by simp[fadeT]
theorem fadeT_ok {o r} {l:List Slo} {w:Int} (h:TierOk l w):TierOk (fadeT o r l) w:=by
  refine ⟨by rw[fadeT_len];exact h.l0,by rw[fadeT_len];exact h.l1,h.w0,h.w1,fun j s hs => ?_⟩
  rw[fadeT_len]
  unfold fadeT at hs
  rw[List.getElem?_map] at hs
  cases ha:l[j]? with
  | none=>rw[ha] at hs;cases hs
  | some a =>
    rw[ha] at hs
    simp only[Option.map_some,Option.some.injEq] at hs
    split at hs
    · rw[←hs];exact h.s j a ha
    · exact .inl hs.symm
theorem fadeT_nb {o r} {l:List Slo} {a:Int} (h:NoBehind l a):NoBehind (fadeT o r l) a:=by
  intro s hs hc
  unfold fadeT at hs
  obtain ⟨x,hx,e⟩:=List.mem_map.1 hs
  split at e
  · rw[←e] at hc ⊢;exact h x hx hc
  · rw[←e] at hc;exact absurd hc (by decide)
def need0 (c:Conf) (last:Int):Int×Int:=(last / c.2.1.2.1*(c.2.1.2.1 / c.2.1.1),last / c.2.1.2.1*(c.2.1.2.1 / c.2.1.1)+c.2.1.2.1 / c.2.1.1)
def need1 (c:Conf) (last:Int):Int×Int:=(last / c.2.1.2.2*(c.2.1.2.2 / c.2.1.2.1),last / c.2.1.2.2*(c.2.1.2.2 / c.2.1.2.1)+c.2.1.2.2 / c.2.1.2.1)
noncomputable def cleanX (c:Conf) (now:Int) (x:Ser):Ser :=
  (x.1,(x.2.1,(x.2.2.1,((fadeT (oldV now c.2.1.1 c.2.2.1.1).1 (need0 c x.2.1) x.2.2.2.1.1,(fadeT (oldV now c.2.1.2.1 c.2.2.1.2.1).1 (need1 c x.2.1) x.2.2.2.1.2.1,fadeT (oldV now c.2.1.2.2 c.2.2.1.2.2).1 (0,0) x.2.2.2.1.2.2)),x.2.2.2.2))))
theorem cleanX_fold {c:Conf} {now:Int} {x:Ser} (h:FoldOk c x.2.2.2.1):FoldOk c (cleanX c now x).2.2.2.1 :=
  ⟨h.cok,by simpa [cleanX,fadeT_len] using h.n0,by simpa [cleanX,fadeT_len] using h.n1,by simpa [cleanX,fadeT_len] using h.n2,fadeT_ok h.t0,fadeT_ok h.t1,fadeT_ok h.t2⟩
theorem cleanX_ok {c:Conf} {now:Int} {x:Ser} (h:SerOk c x):SerOk c (cleanX c now x):=by
  refine ⟨cleanX_fold h.fold,h.lab,h.raw,?_⟩
  rcases h.st with ⟨k1,k2⟩ | ⟨k1,k2⟩
  · exact .inl ⟨k1,k2.raw,k2.opn,fadeT_nb k2.b0,fadeT_nb k2.b1,fadeT_nb k2.b2⟩
  · exact .inr ⟨k1,k2.last,k2.ol,k2.fit,fadeT_nb k2.b0,fadeT_nb k2.b1,fadeT_nb k2.b2⟩
structure Ends3 (c:Conf) (s:Ser):Prop where
  t0:s.2.1 = -1∨NoBehind s.2.2.2.1.1 (s.2.1 / c.2.1.1)∧CellN s.2.2.2.2.2∧s.2.2.2.2.2.2.1.1 / c.2.1.1=s.2.1 / c.2.1.1
  t1:s.2.1 = -1∨∃m,now1 c s=(m,0)∧NoBehind s.2.2.2.1.2.1 (s.2.1 / c.2.1.2.1)∧CellN m∧m.2.1.1 / c.2.1.2.1=s.2.1 / c.2.1.2.1
  t2:s.2.1 = -1∨∃m,now2 c s=(m,0)∧NoBehind s.2.2.2.1.2.2 (s.2.1 / c.2.1.2.2)∧CellN m∧m.2.1.1 / c.2.1.2.2=s.2.1 / c.2.1.2.2
noncomputable def dueAt (s:Sta) (i:Nat):Bool:=match s.2.2.2[i]? with | some x=>deadV s.1 x.2.1 s.2.1 | none=>false
noncomputable def dueV (s:Sta):List Nat:=if StaOk s then (liveV s).filter (dueAt s) else []
def sweptS (s:Sta):Sta:=(s.1,(s.2.1,(s.2.1,s.2.2.2)))
noncomputable def cleanP (s:Sta) (x:Ser):Ser:=if LvX s x then cleanX s.1 s.2.1 x else ser0
noncomputable def cleanS (s:Sta):Sta:=(s.1,(s.2.1,(s.2.2.1,s.2.2.2.map (cleanP s))))
theorem swept_lv {s:Sta} {x:Ser} (h:StaOk s):LvX (sweptS s) x↔x≠ser0∧deadV s.1 x.2.1 s.2.1=false:=by
  have:=h.clock.1.1
  constructor
  · rintro ⟨h1,h2 | h2⟩
    · exfalso;have h2:s.2.1 = -1:=h2;omega
    · exact ⟨h1,h2⟩
  · rintro ⟨h1,h2⟩;exact ⟨h1,.inr h2⟩
theorem old_mono {a b w m:Int} (ha:OfP a w) (hb:OfP b w) (hab:a≤b) (hm:1≤m∧m≤4096):(oldV a w m).1≤(oldV b w m).1:=by
  unfold oldV
  rw[if_pos (show OfP a w∧1≤m∧m≤4096 from ⟨ha,hm.1,hm.2⟩),if_pos (show OfP b w∧1≤m∧m≤4096 from ⟨hb,hm.1,hm.2⟩)]
  have:a / w≤b / w:=Int.ediv_le_ediv (by have:=ha.2.2.1;omega) hab
  simp only
  split<;>split<;>omega
theorem gone_mono {t a b w m:Int} (ha:OfP a w) (hb:OfP b w) (hab:a≤b) (hm:1≤m∧m≤4096) (h:goneV t a w m=true):goneV t b w m=true:=by
  unfold goneV at *
  have h:=of_decide_eq_true h
  have:=old_mono ha hb hab hm
  exact decide_eq_true ⟨h.1,old_none hb hm,by omega⟩
theorem dead_mono {c:Conf} {t a b:Int} (ha:TimeP a) (hb:TimeP b) (hab:a≤b) (h:deadV c t a=true):deadV c t b=true:=by
  unfold deadV at *
  simp only[Bool.and_eq_true,decide_eq_true_eq] at h ⊢
  obtain ⟨hc,h0,h1,h2⟩:=h
  have hr:=hc.rng
  exact ⟨hc,gone_mono ⟨ha.1,ha.2,hr.w0.1,hr.w0.2⟩ ⟨hb.1,hb.2,hr.w0.1,hr.w0.2⟩ hab hr.n0 h0,gone_mono ⟨ha.1,ha.2,hr.w1.1,hr.w1.2⟩ ⟨hb.1,hb.2,hr.w1.1,hr.w1.2⟩ hab hr.n1 h1,gone_mono ⟨ha.1,ha.2,hr.w2.1,hr.w2.2⟩ ⟨hb.1,hb.2,hr.w2.1,hr.w2.2⟩ hab hr.n2 h2⟩
theorem swept_of {s:Sta} (h:StaOk s) {x:Ser} (hl:LvX (sweptS s) x):LvX s x:=by
  obtain ⟨h1,h2⟩:=(swept_lv h).1 hl
  refine ⟨h1,?_⟩
  rcases h.clock.2.1 with k | k
  · exact .inl k
  · refine .inr ?_
    cases hd:deadV s.1 x.2.1 s.2.2.1 with
    | false=>rfl
    | true=>rw[dead_mono k h.clock.1 h.clock.2.2 hd] at h2;cases h2
theorem swept_ok {s:Sta} (h:StaOk s):StaOk (sweptS s):=by
  refine ⟨h.whole,⟨h.clock.1,.inr h.clock.1,Int.le_refl _⟩,fun i x hx => ?_⟩
  rcases h.right i x hx with k | ⟨k1,k2,k3,k4⟩
  · exact .inl k
  · refine .inr ⟨k1,k2,k3,?_⟩
    rintro ⟨q1,j,q2,y,q3,q4,q5⟩
    exact k4 ⟨swept_of h q1,j,q2,y,q3,swept_of h q4,q5⟩
theorem cleanX_ne {c:Conf} {now:Int} {x:Ser} (h:SerOk c x):cleanX c now x≠ser0:=by
  intro k
  have:=h.lab.n0
  have e:x.1=[]:=congrArg Prod.fst k
  rw[e] at this;simp at this
theorem live_ok {s:Sta} (h:StaOk s) {x:Ser} (hx:x∈s.2.2.2) (hl:LvX s x):SerOk s.1 x∧0≤x.2.1:=by
  obtain ⟨i,hi,e⟩:=List.getElem_of_mem hx
  rcases h.right i x (by rw[List.getElem?_eq_getElem hi,e]) with k | k
  · exact absurd k hl.1
  · exact ⟨k.1,k.2.1⟩
theorem cleanP_lv {s:Sta} (h:StaOk s) {x:Ser} (hx:x∈s.2.2.2):LvX s (cleanP s x)↔LvX s x:=by
  unfold cleanP
  by_cases hl:LvX s x
  · rw[if_pos hl]
    exact ⟨fun _=>hl,fun _=>⟨cleanX_ne (live_ok h hx hl).1,hl.2⟩⟩
  · rw[if_neg hl]
    exact ⟨fun k=>absurd rfl k.1,fun k=>absurd k hl⟩
theorem clean_ok {s:Sta} (h:StaOk s):StaOk (cleanS s):=by
  refine ⟨⟨h.whole.1,by simpa [cleanS] using h.whole.2⟩,h.clock,fun i x hx => ?_⟩
  have hx:(s.2.2.2.map (cleanP s))[i]? = some x:=hx
  rw[List.getElem?_map] at hx
  cases hy:s.2.2.2[i]? with
  | none=>rw[hy] at hx;cases hx
  | some y =>
    rw[hy] at hx
    simp only[Option.map_some,Option.some.injEq] at hx
    by_cases hl:LvX s y
    · have e:cleanP s y=cleanX s.1 s.2.1 y:=if_pos hl
      rw[e] at hx
      have hym:=List.mem_of_getElem? hy
      rcases h.right i y hy with k | ⟨k1,k2,k3,k4⟩
      · exact absurd k hl.1
      subst hx
      refine .inr ⟨cleanX_ok k1,k2,k3,?_⟩
      rintro ⟨q1,j,q2,z,q3,q4,q5⟩
      have q3:(s.2.2.2.map (cleanP s))[j]? = some z:=q3
      rw[List.getElem?_map] at q3
      cases hw:s.2.2.2[j]? with
      | none=>rw[hw] at q3;cases q3
      | some w =>
        rw[hw] at q3
        simp only[Option.map_some,Option.some.injEq] at q3
        have hwm:=List.mem_of_getElem? hw
        have q4:LvX s z:=q4
        rw[←q3] at q4 q5
        have hlw:=(cleanP_lv h hwm).1 q4
        have e2:cleanP s w=cleanX s.1 s.2.1 w:=if_pos hlw
        rw[e2] at q5
        exact k4 ⟨hl,j,q2,w,hw,hlw,q5⟩
    · have e:cleanP s y=ser0:=if_neg hl
      rw[e] at hx
      exact .inl hx.symm
end Go.Proofs.YtjeabebacegikaaGreatDoor
namespace Go.Proofs.YtjeabebacegikaaGreatDoor
open Go.Flat
def rd (st:List UInt8×Bool) (k:Nat):Int×(List UInt8×Bool):=if st.2=true∨st.1.length<k then (0,([],true)) else (valI (bytesI (st.1.take k)),(st.1.drop k,false))
def q0 (s:List UInt8):=rd (s,false) 4
def q1 (s:List UInt8):=rd (q0 s).2 8
def q2 (s:List UInt8):=rd (q1 s).2 8
def q3 (s:List UInt8):=rd (q2 s).2 8
def q4 (s:List UInt8):=rd (q3 s).2 4
def q5 (s:List UInt8):=rd (q4 s).2 4
def q6 (s:List UInt8):=rd (q5 s).2 4
def q7 (s:List UInt8):=rd (q6 s).2 4
def q8 (s:List UInt8):=rd (q7 s).2 4
def q9 (s:List UInt8):=rd (q8 s).2 8
structure Full (s:List UInt8):Prop where
  z:(q9 s).1=0
  good:(q9 s).2.2=false
  left:(q9 s).2.1=[]
def idxC (c:Conf):Int:=prt c.2.2.2.2 120
def hom (c:Conf):Int:=1+idxC c+c.2.2.2.2
end Go.Proofs.YtjeabebacegikaaGreatDoor
namespace Go.Proofs.YtjeabebacegikaaGreatDoor
open Go.Flat Go.Plim
set_option linter.unusedVariables false
set_option linter.unusedSimpArgs false
theorem el_get {l:List Ser} {k:Nat} (h:k<l.length):∃y,l[k]? = some y:=⟨l[k],List.getElem?_eq_getElem h⟩
noncomputable def findR (s:Sta) (l:List Lab):Int×Int:=if Whole s then (match findV s l with | some i=>((i:Int),0) | none=>(0,3)) else (0,2)
noncomputable def roomR (s:Sta):Int×Int:=if Whole s then (match roomV s with | some i=>((i:Int),0) | none=>(0,7)) else (0,2)
noncomputable def liveR (s:Sta):List Int:=if Whole s then (liveV s).map Int.ofNat else []
def IsF (s:Sta) (l:List Lab) (k:Nat):Prop:=∃y,s.2.2.2[k]? = some y∧y.1=l∧LvX s y
noncomputable instance (s l k):Decidable (IsF s l k):=Classical.propDecidable _
def IsR (s:Sta) (k:Nat):Prop:=∃y,s.2.2.2[k]? = some y∧¬LvX s y
noncomputable instance (s k):Decidable (IsR s k):=Classical.propDecidable _
theorem find_first {s:Sta} {l:List Lab} {m:Nat} (h:IsF s l m) (hn:∀j,j<m→¬IsF s l j):findV s l=some m:=by
  obtain ⟨y,h1,h2,h3⟩:=h
  exact findV_some.2 ⟨y,h1,h2,h3,fun j hj z hz k=>hn j hj ⟨z,hz,k.1,k.2⟩⟩
theorem find_no {s:Sta} {l:List Lab} (hn:∀j,j<s.2.2.2.length→¬IsF s l j):findV s l=none:=by
  refine findV_none.2 fun x hx k => ?_
  obtain ⟨i,hi,e⟩:=List.getElem_of_mem hx
  exact hn i hi ⟨x,by rw[List.getElem?_eq_getElem hi,e],k.1,k.2⟩
theorem room_first {s:Sta} {m:Nat} (h:IsR s m) (hn:∀j,j<m→¬IsR s j):roomV s=some m:=by
  obtain ⟨y,h1,h2⟩:=h
  exact roomV_some.2 ⟨y,h1,h2,fun j hj z hz=>Decidable.byContradiction fun k=>hn j hj ⟨z,hz,k⟩⟩
theorem room_no {s:Sta} (hn:∀j,j<s.2.2.2.length→¬IsR s j):roomV s=none:=by
  refine roomV_none.2 fun x hx=>Decidable.byContradiction fun k => ?_
  obtain ⟨i,hi,e⟩:=List.getElem_of_mem hx
  exact hn i hi ⟨x,by rw[List.getElem?_eq_getElem hi,e],k⟩
theorem stt_find (n:Nat) {s:Sta} (hw:StaW s) (l:List Lab):stt_Find (n+10) s l=some (findR s l):=by
  rw[stt_Find_eq,st_open (n+5) s,obs,tfn,tfd]
  unfold findR
  by_cases h:Whole s
  case neg=>rw[if_neg h,if_neg h,if_neg (show ¬((sta0,(2:Int)).2=0) by decide)]
  rw[if_pos h,if_pos h,if_pos rfl]
  have his:∀k:Nat,k<s.2.2.2.length→(fun y1:Int×Unit=>stt_Find_1 (n+9) y1.1 s l s) ((k:Int),())=some (decide (IsF s l k)):=by
    intro k hk
    obtain ⟨y,hy⟩:=el_get hk
    have hm:=(hw.at hy).2
    show stt_Find_1 (n+9) (k:Int) s l s=_
    rw[stt_Find_1_eq,at_el hy,obs,label_same (n+6) _ _ hm.l,obs,tfd,st_lives (n+1) hy hm,obs]
    by_cases h1:y.1=l
    · rw[if_pos h1]
      refine congrArg some (decide_eq_decide.2 ⟨fun k=>⟨y,hy,h1,k⟩,fun ⟨z,z1,z2,z3⟩ => ?_⟩)
      rw[hy] at z1;cases z1;exact z3
    · rw[if_neg h1,decide_eq_false (fun q:IsF s l k=>by obtain ⟨z,z1,z2,z3⟩:=q;rw[hy] at z1;cases z1;exact h1 z2)]
  rcases first_val (n+8) s (fun y1:Int×Unit=>stt_Find_1 (n+9) y1.1 s l s) (fun k=>decide (IsF s l k)) (by have:=h.len;omega) his with ⟨m,q1,q2,q3,q4⟩ | ⟨q1,q2⟩
  · rw[show (fun y1:Int×Unit=>stt_Find_1 (n+9) y1.1 s l (s,(0:Int)).1)=fun y1:Int×Unit=>stt_Find_1 (n+9) y1.1 s l s from rfl,q4,obs,tfd,if_neg (by omega),find_first (of_decide_eq_true q2) (fun j hj=>of_decide_eq_false (q3 j hj))]
  · rw[show (fun y1:Int×Unit=>stt_Find_1 (n+9) y1.1 s l (s,(0:Int)).1)=fun y1:Int×Unit=>stt_Find_1 (n+9) y1.1 s l s from rfl,q2,obs,tfd,if_pos (by decide),find_no (fun j hj=>of_decide_eq_false (q1 j hj))]
theorem stt_room (n:Nat) {s:Sta} (hw:StaW s):stt_Room (n+10) s=some (roomR s):=by
  rw[stt_Room_eq,st_open (n+5) s,obs,tfn,tfd]
  unfold roomR
  by_cases h:Whole s
  case neg=>rw[if_neg h,if_neg h,if_neg (show ¬((sta0,(2:Int)).2=0) by decide)]
  rw[if_pos h,if_pos h,if_pos rfl]
  have his:∀k:Nat,k<s.2.2.2.length→(fun y1:Int×Unit=>stt_Room_1 (n+9) y1.1 s) ((k:Int),())=some (decide (IsR s k)):=by
    intro k hk
    obtain ⟨y,hy⟩:=el_get hk
    have hm:=(hw.at hy).2
    show stt_Room_1 (n+9) (k:Int) s=_
    rw[stt_Room_1_eq,st_lives (n+1) hy hm,obs]
    by_cases h1:LvX s y
    · rw[decide_eq_true h1,decide_eq_false (fun q:IsR s k=>by obtain ⟨z,z1,z2⟩:=q;rw[hy] at z1;cases z1;exact z2 h1)];rfl
    · rw[decide_eq_false h1,decide_eq_true (show IsR s k from ⟨y,hy,h1⟩)];rfl
  rcases first_val (n+8) s (fun y1:Int×Unit=>stt_Room_1 (n+9) y1.1 s) (fun k=>decide (IsR s k)) (by have:=h.len;omega) his with ⟨m,q1,q2,q3,q4⟩ | ⟨q1,q2⟩
  · rw[show (fun y1:Int×Unit=>stt_Room_1 (n+9) y1.1 (s,(0:Int)).1)=fun y1:Int×Unit=>stt_Room_1 (n+9) y1.1 s from rfl,q4,obs,tfd,if_neg (by omega),room_first (of_decide_eq_true q2) (fun j hj=>of_decide_eq_false (q3 j hj))]
  · rw[show (fun y1:Int×Unit=>stt_Room_1 (n+9) y1.1 (s,(0:Int)).1)=fun y1:Int×Unit=>stt_Room_1 (n+9) y1.1 s from rfl,q2,obs,tfd,if_pos (by decide),room_no (fun j hj=>of_decide_eq_false (q1 j hj))]
theorem r17_find_l4 (n:Nat) {s:Sta} (hw:StaW s) (hL:s.2.2.2.length≤1000000) (l:List Lab):∀(d k f:Nat),k+d=s.2.2.2.length→d<f →
    (∃m:Nat,k≤m∧IsF s l m∧(∀j,k≤j→j<m→¬IsF s l j)∧r17_Find_l4 (n+6) f (l,s,s.2.2.2,(s.2.2.2.length:Int),(k:Int),())=some (.inr ((m:Int),0))) ∨
    ((∀j,k≤j→j<s.2.2.2.length→¬IsF s l j)∧r17_Find_l4 (n+6) f (l,s,s.2.2.2,(s.2.2.2.length:Int),(k:Int),())=some (.inl ())):=by
  intro d
  induction d with
  | zero =>
    intro k f hk hf
    obtain ⟨f,rfl⟩:∃g,f=g+1:=⟨f-1,by omega⟩
    refine .inr ⟨fun j h1 h2=>by omega,?_⟩
    rw[r17_Find_l4_eq,decide_eq_false (by omega),tff]
  | succ d ih =>
    intro k f hk hf
    obtain ⟨f,rfl⟩:∃g,f=g+1:=⟨f-1,by omega⟩
    obtain ⟨y,hy⟩:=el_get (l:=s.2.2.2) (k:=k) (by omega)
    have hm:=(hw.at hy).2
    have ih':=ih (k+1) f (by omega) (by omega)
    have next:¬IsF s l k→((∃m:Nat,k≤m∧IsF s l m∧(∀j,k≤j→j<m→¬IsF s l j)∧r17_Find_l4 (n+6) f (l,s,s.2.2.2,(s.2.2.2.length:Int),((k+1:Nat):Int),())=some (.inr ((m:Int),0))) ∨
    ((∀j,k≤j→j<s.2.2.2.length→¬IsF s l j)∧r17_Find_l4 (n+6) f (l,s,s.2.2.2,(s.2.2.2.length:Int),((k+1:Nat):Int),())=some (.inl ()))):=by
      intro hn
      have low:∀j,k≤j→¬k+1≤j→¬IsF s l j:=fun j h1 h2=>by rw[show j=k by omega];exact hn
      rcases ih' with ⟨m,h1,h2,h3,h4⟩ | ⟨h1,h2⟩
      · exact .inl ⟨m,by omega,h2,fun j q1 q2=>if z:k+1≤j then h3 j z q2 else low j q1 z,h4⟩
      · exact .inr ⟨fun j q1 q2=>if z:k+1≤j then h1 j z q2 else low j q1 z,h2⟩
    rw[r17_Find_l4_eq,decide_eq_true (by omega),tft,at_el hy,obs,r17_lives_val n hy hm,obs,tfd,eq_r05_Same (n+5) _ _ hm.l,obs,tfd,w64 (by omega) (by omega),show ((k:Int)+1)=((k+1:Nat):Int) by omega]
    by_cases h1:LvX s y
    case neg=>rw[if_neg h1];exact next (fun q=>by obtain ⟨z,z1,z2,z3⟩:=q;rw[hy] at z1;cases z1;exact h1 z3)
    rw[if_pos h1]
    by_cases h2:y.1=l
    case neg=>rw[if_neg h2];exact next (fun q=>by obtain ⟨z,z1,z2,z3⟩:=q;rw[hy] at z1;cases z1;exact h2 z2)
    rw[if_pos h2]
    exact .inl ⟨k,Nat.le_refl _,⟨y,hy,h2,h1⟩,fun j q1 q2=>by omega,rfl⟩
theorem r17_find (n:Nat) {s:Sta} (hw:StaW s) (l:List Lab):r17_Find (n+7) s l=some (findR s l):=by
  rw[r17_Find_eq,r17_whole_val (n+2) s,obs,tfn,tfd]
  unfold findR
  by_cases h:Whole s
  case neg=>rw[if_neg h,if_neg h]
  rw[if_pos h,if_pos h]
  have hL:=h.len
  rcases r17_find_l4 n hw (by omega) l s.2.2.2.length 0 loopFuel (by omega) (by unfold loopFuel;omega) with ⟨m,q1,q2,q3,q4⟩ | ⟨q1,q2⟩
  · have q4':r17_Find_l4 (n+6) loopFuel (l,s,s.2.2.2,(s.2.2.2.length:Int),(0:Int),())=some (.inr ((m:Int),0)):=q4
    rw[q4',obs,selim_inr,find_first q2 (fun j hj=>q3 j (by omega) hj)]
  · have q2':r17_Find_l4 (n+6) loopFuel (l,s,s.2.2.2,(s.2.2.2.length:Int),(0:Int),())=some (.inl ()):=q2
    rw[q2',obs,selim_inl,find_no (fun j hj=>q1 j (by omega) hj)]
theorem lvAt_el {s:Sta} {k:Nat} {y:Ser} (h:s.2.2.2[k]? = some y):decide (LvX s y)=lvAt s k:=(lvAt_some h).symm
theorem st_live_l6 (n:Nat) {s:Sta} (hw:StaW s) (hL:s.2.2.2.length≤1000000):∀(d k f:Nat) (out:List Int),k+d=s.2.2.2.length→d<f→out.length≤k →
    stt_Live_l6 (n+7) f (s,out,(s.2.2.2.length:Int),(k:Int),())=some (.inl (out++((List.range' k d).filter (lvAt s)).map Int.ofNat,())):=by
  intro d
  induction d with
  | zero =>
    intro k f out hk hf ho
    obtain ⟨f,rfl⟩:∃g,f=g+1:=⟨f-1,by omega⟩
    rw[stt_Live_l6_eq,decide_eq_false (by omega),tff];simp
  | succ d ih =>
    intro k f out hk hf ho
    obtain ⟨f,rfl⟩:∃g,f=g+1:=⟨f-1,by omega⟩
    obtain ⟨y,hy⟩:=el_get (l:=s.2.2.2) (k:=k) (by omega)
    rw[stt_Live_l6_eq,decide_eq_true (by omega),tft,st_lives n hy (hw.at hy).2,obs,lvAt_el hy,w64 (by omega) (by omega),show ((k:Int)+1)=((k+1:Nat):Int) by omega,List.range'_succ]
    cases h:lvAt s k
    · rw[tff,ih (k+1) f out (by omega) (by omega) (by omega),List.filter_cons_of_neg (by simp[h])]
    · rw[tft,decide_eq_true (by omega),tft,ih (k+1) f _ (by omega) (by omega) (by simp;omega),List.filter_cons_of_pos h];simp
theorem stt_live (n:Nat) {s:Sta} (hw:StaW s):stt_Live (n+8) s=some (liveR s):=by
  rw[stt_Live_eq,st_open (n+3) s,obs,tfn,tfd]
  unfold liveR
  by_cases h:Whole s
  case neg=>rw[if_neg h,if_neg h,if_neg (show ¬((sta0,(2:Int)).2=0) by decide)]
  rw[if_pos h,if_pos h,if_pos rfl]
  have hL:=h.len
  have e:stt_Live_l6 (n+7) loopFuel (s,([]:List Int),(s.2.2.2.length:Int),(0:Int),())=_:=st_live_l6 n hw (by omega) s.2.2.2.length 0 loopFuel [] (by omega) (by unfold loopFuel;omega) (by simp)
  simp only
  rw[e,obs,selim_inl]
  unfold liveV
  rw[List.range_eq_range'];rfl
noncomputable def livesB (s:Sta) (i:Int):Bool:=decide (Whole s∧0≤i∧lvAt s i.toNat=true)
theorem lvAt_lt {s:Sta} {k:Nat} (h:lvAt s k=true):k<s.2.2.2.length:=by
  unfold lvAt at h
  cases hx:s.2.2.2[k]? with
  | none=>rw[hx] at h;cases h
  | some x=>exact (List.getElem?_eq_some_iff.1 hx).1
theorem stt_lives (n:Nat) {s:Sta} (hw:StaW s) (i:Int):stt_Lives (n+8) s i=some (livesB s i):=by
  rw[stt_Lives_eq,st_open (n+3) s,obs,tfd,tfd,tfd]
  unfold livesB
  by_cases h:Whole s
  case neg=>rw[if_neg h,if_neg (show ¬((sta0,(2:Int)).2=0) by decide),decide_eq_false (fun k=>h k.1)]
  rw[if_pos h,if_pos rfl]
  by_cases h1:0≤i
  case neg=>rw[if_neg h1,decide_eq_false (fun k=>h1 k.2.1)]
  rw[if_pos h1]
  by_cases h2:i<(s.2.2.2.length:Int)
  · rw[if_pos h2]
    obtain ⟨y,hy⟩:=el_get (l:=s.2.2.2) (k:=i.toNat) (by omega)
    have e:=st_lives n hy (hw.at hy).2
    rw[show ((i.toNat:Nat):Int)=i by omega] at e
    simp only
    rw[e,obs,lvAt_el hy]
    cases h3:lvAt s i.toNat
    · rw[decide_eq_false (by rintro ⟨_,_,k⟩;cases k)]
    · rw[decide_eq_true ⟨h,h1,rfl⟩]
  · rw[if_neg h2,decide_eq_false (fun k=>by have:=lvAt_lt k.2.2;omega)]
theorem sta0_w:StaW sta0:=⟨by simp[sta0],by simp[sta0]⟩
theorem ser0_w:SerW ser0:=by
  refine ⟨?_,?_,⟨?_,?_,?_⟩,slow_s0⟩
  · unfold I64;simp[ser0]
  · intro e he;simp[ser0,r0w] at he
  · intro x hx;simp[ser0] at hx
  · intro x hx;simp[ser0] at hx
  · intro x hx;simp[ser0] at hx
theorem lvAt_iff {s:Sta} {i:Nat}:lvAt s i=true↔∃x,s.2.2.2[i]? = some x∧LvX s x:=by
  unfold lvAt
  cases s.2.2.2[i]? with
  | none=>simp
  | some x=>simp
theorem chk_ok {α:Type} {s:Sta} (h:StaOk s) (x y:α):tif (decide ((if StaOk s then (0:Int) else 2)=0)) x y=x:=by rw[if_pos h];rfl
theorem chk_no {α:Type} {s:Sta} (h:¬StaOk s) (x y:α):tif (decide ((if StaOk s then (0:Int) else 2)=0)) x y=y:=by rw[if_neg h];rfl
theorem get_mid {α:Type} {l pre rest:List α} {x:α} {i:Int} (h:l=pre++x::rest) (hi:i=pre.length):l[i.toNat]? = some x:=by subst h hi;simp
theorem set_mid {α:Type} {pre rest:List α} {x v:α} {i:Int} (hi:i=pre.length):(pre++x::rest).set i.toNat v=(pre++[v])++rest:=by subst hi;simp
theorem at_nn {α:Type} {l:List α} {i:Int} {x:α} (h0:0≤i) (h:l[i.toNat]? = some x):at? l i=some x:=by unfold at?;rw[decide_eq_true h0];exact h
section
variable {del:Int×Unit→Option Bool} {p:Int→Bool} {L:List Int} (hd:∀x∈L,del (x,())=some (p x))
include hd
theorem index_il (n:Nat) (l:List Int) (hL:l.length≤1000000):∀(rest pre:List Int) (f:Nat) (i len:Int),(∀x∈rest,x∈L)→l=pre++rest→i=pre.length→len=l.length→rest.length<f →
    (sl_IndexFunc_int_l2 n f (l,del,len,i,())=some (.inl ())∧∀x∈rest,p x=false) ∨
    (∃A x B,rest=A++x::B∧(∀y∈A,p y=false)∧p x=true∧sl_IndexFunc_int_l2 n f (l,del,len,i,())=some (.inr (i+A.length))):=by
  intro rest
  induction rest with
  | nil =>
    intro pre f i len hm hl hi hn hf
    obtain ⟨f,rfl⟩:∃g,f=g+1:=⟨f-1,by simp at hf;omega⟩
    rw[sl_IndexFunc_int_l2_eq]
    exact .inl ⟨by simp only[tfd,if_neg (idxe hl hi hn)],by simp⟩
  | cons x rest ih =>
    intro pre f i len hm hl hi hn hf
    obtain ⟨f,rfl⟩:∃g,f=g+1:=⟨f-1,by simp at hf;omega⟩
    rw[sl_IndexFunc_int_l2_eq]
    simp only[tfd,if_pos (idx hl hi hn),at_mid hl hi,obs,hd x (hm x (by simp)),idxw hl hi (show l.length≤1000000000000 by omega)]
    cases hp:p x with
    | true=>exact .inr ⟨[],x,rest,rfl,by simp,hp,by simp⟩
    | false =>
      rw[tff]
      rcases ih (pre++[x]) f (i+1) len (fun y hy=>hm y (by simp[hy])) (idxl hl) (idxs hi) hn (by simp at hf;omega) with ⟨h1,h2⟩ | ⟨A,y,B,h1,h2,h3,h4⟩
      · exact .inl ⟨h1,by intro z hz;rcases List.mem_cons.1 hz with rfl | hz;exact hp;exact h2 z hz⟩
      · refine .inr ⟨x::A,y,B,by rw[h1];rfl,?_,h3,by rw[h4,List.length_cons,show i+1+(A.length:Int)=i+((A.length+1:Nat):Int) by omega]⟩
        intro z hz
        rcases List.mem_cons.1 hz with rfl | hz
        · exact hp
        · exact h2 z hz
theorem delete_il (n:Nat) (l0:List Int) (hL:l0.length≤1000000):∀(rest F G:List Int) (f:Nat) (i j:Int),(∀x∈rest,x∈L)→(F++(G++rest)).length=l0.length→G≠[]→i=F.length→j=F.length+G.length→rest.length<f →
    ∃G',sl_DeleteFunc_int_l5 n f (F++(G++rest),del,i,j,())=some (.inl (F++rest.filter (fun x => !p x)++G',(F++rest.filter (fun x => !p x)).length,()))∧(F++rest.filter (fun x => !p x)++G').length=l0.length:=by
  intro rest
  induction rest with
  | nil =>
    intro F G f i j hm hl hg hi hj hf
    obtain ⟨f,rfl⟩:∃g,f=g+1:=⟨f-1,by simp at hf;omega⟩
    rw[sl_DeleteFunc_int_l5_eq]
    have:¬(j<((F++(G++[])).length:Int)):=by simp;omega
    simp only[tfd,if_neg this]
    exact ⟨G,by simp[hi],by simpa using hl⟩
  | cons x rest ih =>
    intro F G f i j hm hl hg hi hj hf
    have hm':∀y∈rest,y∈L:=fun y hy=>hm y (by simp[hy])
    obtain ⟨f,rfl⟩:∃g,f=g+1:=⟨f-1,by simp at hf;omega⟩
    rw[sl_DeleteFunc_int_l5_eq]
    simp only[List.length_append,List.length_cons] at hl
    have hlt:j<((F++(G++x::rest)).length:Int):=by simp;omega
    have hat:at? (F++(G++x::rest)) j=some x:=at_mid (pre:=F++G) (rest:=rest) (by simp) (by simp;omega)
    have hget:(F++(G++x::rest))[j.toNat]? = some x:=by
      rw[show j.toNat=F.length+G.length by omega,List.getElem?_append_right (by omega),List.getElem?_append_right (by omega)]
      simp
    simp only[tfd,if_pos hlt,hat,hget,obs,hd x (hm x (by simp))]
    have wj:IntKind.wrap .i64 (j+1)=j+1:=by rw[w64 (by omega) (by omega)]
    have wi:IntKind.wrap .i64 (i+1)=i+1:=by rw[w64 (by omega) (by omega)]
    rw[wj,wi]
    match G,hg with
    | g::G,_ =>
    cases hp:p x with
    | false =>
      have hat':at? (F++(g::G++x::rest)) i=some g:=at_mid (pre:=F) (rest:=G++x::rest) (by simp) hi
      have hget':(F++(g::G++x::rest))[i.toNat]? = some g:=by
        rw[show i.toNat=F.length by omega];simp
      have hset:(F++(g::G++x::rest)).set i.toNat x=(F++[x])++((G++[x])++rest):=by
        rw[show i.toNat=F.length by omega,List.set_append_right _ _ (by omega)]
        simp
      simp only[Bool.not_false,tft,hat',hget',obs,hset]
      obtain ⟨G',h1,h2⟩:=ih (F++[x]) (G++[x]) f (i+1) (j+1) hm' (by simp at hl ⊢;omega) (by simp) (by simp;omega) (by simp at hj ⊢;omega) (by simp at hf;omega)
      refine ⟨G',?_,?_⟩
      · rw[h1];simp[List.filter_cons,hp]
      · rw[←h2];simp[List.filter_cons,hp]
    | true =>
      simp only[Bool.not_true,tff]
      obtain ⟨G',h1,h2⟩:=ih F (g::G++[x]) f i (j+1) hm' (by simp at hl ⊢;omega) (by simp) hi (by simp at hj ⊢;omega) (by simp at hf;omega)
      simp only[List.append_assoc,List.singleton_append] at h1
      refine ⟨G',?_,?_⟩
      · rw[h1];simp[List.filter_cons,hp]
      · rw[←h2];simp[List.filter_cons,hp]
theorem delete_int (n:Nat) (l:List Int) (hL:l.length≤1000000) (hm:∀x∈l,x∈L):sl_DeleteFunc_int (n+2) l del=some (l.filter fun x => !p x):=by
  rw[sl_DeleteFunc_int_eq,sl_IndexFunc_int_eq]
  rcases index_il hd n l hL l [] loopFuel 0 l.length hm rfl rfl rfl (by unfold loopFuel;omega) with ⟨h1,h2⟩ | ⟨A,x,B,h1,h2,h3,h4⟩
  · rw[h1]
    simp only[obs,selim_inl,tfd,if_pos trivial]
    exact congrArg some (List.filter_eq_self.2 fun y hy=>by simp[h2 y hy]).symm
  · rw[h4]
    have hl:l.length=A.length+(B.length+1):=by rw[h1];simp
    simp only[obs,selim_inr,tfd,Int.zero_add]
    rw[if_neg (by omega),w64 (x:=(A.length:Int)+1) (by omega) (by omega)]
    obtain ⟨G',g1,g2⟩:=delete_il hd (n+1) l hL B A [x] loopFuel (A.length:Int) (A.length+1) (fun y hy=>hm y (by rw[h1];simp[hy])) (by rw[h1];simp) (by simp) rfl (by simp) (by unfold loopFuel;omega)
    rw[show A++([x]++B)=l by rw[h1];simp] at g1
    rw[g1]
    have hF:A++B.filter (fun x => !p x)=l.filter fun x => !p x:=by
      rw[h1,List.filter_append,List.filter_cons]
      have:A.filter (fun x => !p x)=A:=List.filter_eq_self.2 fun y hy=>by simp[h2 y hy]
      simp[h3,this]
    rw[hF] at g2 ⊢
    generalize (l.filter fun x => !p x)=F at *
    simp only[obs,selim_inl,tif_and,tfd,Int.toNat_natCast]
    have hle:F.length≤(F++G').length:=by simp
    have k1:putRow (F++G') F.length (List.replicate ((F++G').length-F.length) (0:Int))=F++List.replicate ((F++G').length-F.length) (0:Int):=by
      unfold putRow
      rw[List.drop_of_length_le (by simp)]
      simp
    rw[k1,if_pos (by omega),if_pos hle,if_pos (by omega),if_pos (by omega),if_pos (by simp;omega)]
    simp
end
theorem live_at {s:Sta} {z:Int} (h:z∈(liveV s).map Int.ofNat):0≤z∧∃y,s.2.2.2[z.toNat]? = some y∧LvX s y:=by
  obtain ⟨i,hi,rfl⟩:=List.mem_map.1 h
  have h1:=(List.mem_filter.1 hi).2
  obtain ⟨x,hx,hl⟩:=lvAt_iff.1 h1
  exact ⟨Int.natCast_nonneg i,x,hx,hl⟩
theorem sweep_due_1 (n:Nat) {s:Sta} {z:Int} {x:Ser} (h0:0≤z) (hx:s.2.2.2[z.toNat]? = some x):sweep_Due_1 (n+7) z s=some (!dueAt s z.toNat):=by
  rw[sweep_Due_1_eq,at_nn h0 hx,obs,series_dead n,obs]
  unfold dueAt
  rw[hx]
theorem due_list (s:Sta):((liveV s).map Int.ofNat).filter (fun z=>dueAt s z.toNat)=((liveV s).filter (dueAt s)).map Int.ofNat:=by
  rw[List.filter_map];rfl
theorem sweep_due (n:Nat) {s:Sta} (hw:StaW s):sweep_Due (n+15) s=some ((dueV s).map Int.ofNat):=by
  rw[sweep_Due_eq,stt_check n hw,obs,tfn]
  unfold dueV
  by_cases h:StaOk s
  case neg=>rw[chk_no h,if_neg h];rfl
  have hd:∀z∈(liveV s).map Int.ofNat,(fun y2:Int×Unit=>sweep_Due_1 (n+14) y2.1 s) (z,())=some (!dueAt s z.toNat):=fun z hz=>by
    obtain ⟨h0,y,hy,_⟩:=live_at hz
    exact sweep_due_1 (n+7) h0 hy
  have hL:((liveV s).map Int.ofNat).length≤1000000:=by have:=live_len s;have:=h.whole.len;simp;omega
  have e:liveR s=(liveV s).map Int.ofNat:=if_pos h.whole
  rw[chk_ok h,stt_live (n+6) hw,obs,e,delete_int (del:=fun y2:Int×Unit=>sweep_Due_1 (n+14) y2.1 s) (p:=fun z => !dueAt s z.toNat) hd (n+12) _ hL (fun _ hx=>hx),obs,if_pos h,←due_list]
  simp only[Bool.not_not]
noncomputable def doV (s:Sta):Sta×(Int×Int):=if StaOk s then (sweptS s,(((dueV s).length:Int),0)) else (sta0,(0,2))
theorem sweep_do (n:Nat) {s:Sta} (hw:StaW s):sweep_Do (n+16) s=some (doV s):=by
  rw[sweep_Do_eq,stt_check (n+1) hw,obs,tfn]
  unfold doV
  by_cases h:StaOk s
  case neg=>rw[chk_no h,if_neg h,if_neg h];rfl
  rw[chk_ok h,if_pos h,sweep_due n hw,obs,List.length_map];rfl
theorem sweptS_w {s:Sta} (hw:StaW s):StaW (sweptS s):=⟨hw.len,hw.ser⟩
theorem doV_w {s:Sta} (hw:StaW s):StaW (doV s).1:=by
  unfold doV;split
  · exact sweptS_w hw
  · exact sta0_w
theorem fade_cons (o:Int) (r:Int×Int) (x:Slo) (l:List Slo):fadeT o r (x::l)=(if KeepP o r x then x else s0)::fadeT o r l:=rfl
theorem fade_l4 (n:Nat) (o a b:Int):∀(rest pre:List Slo) (f:Nat) (ix len:Int),pre.length+rest.length≤1000000→ix=pre.length→len=(pre.length:Int)+rest.length→rest.length<f →
    sweep_fade_l4 n f (o,a,b,pre++rest,len,ix,())=some (.inl (pre++fadeT o (a,b) rest,())):=by
  intro rest
  induction rest with
  | nil =>
    intro pre f ix len hL hi hn hf
    obtain ⟨f,rfl⟩:∃g,f=g+1:=⟨f-1,by simp at hf;omega⟩
    rw[sweep_fade_l4_eq,decide_eq_false (by simp at hn;omega),tff];rfl
  | cons x rest ih =>
    intro pre f ix len hL hi hn hf
    obtain ⟨f,rfl⟩:∃g,f=g+1:=⟨f-1,by simp at hf;omega⟩
    simp only[List.length_cons] at hL hn hf
    have go:∀v:Slo,v=(if KeepP o (a,b) x then x else s0)→sweep_fade_l4 n f (o,a,b,(pre++[v])++rest,len,ix+1,())=some (.inl (pre++fadeT o (a,b) (x::rest),())):=by
      intro v hv
      rw[ih (pre++[v]) f (ix+1) len (by simp;omega) (by simp;omega) (by simp;omega) (by omega),fade_cons,←hv]
      simp
    have same:(pre++[x])++rest=pre++x::rest:=by simp
    have gm:∀v:Slo,(pre++x::rest).set ix.toNat v=(pre++[v])++rest:=fun v=>set_mid hi
    rw[sweep_fade_l4_eq,decide_eq_true (by omega),tft,at_mid rfl hi,obs,get_mid rfl hi,obs,w64 (by omega) (by omega)]
    simp only[tfd,obs,gm]
    by_cases h1:x.1<o
    · rw[if_pos h1]
      by_cases h2:x.1<a
      · rw[if_pos h2]
        exact go s0 (if_neg (fun k:KeepP o (a,b) x=>k ⟨h1,.inl h2⟩)).symm
      · rw[if_neg h2]
        by_cases h3:b≤x.1
        · rw[if_pos h3]
          exact go s0 (if_neg (fun k:KeepP o (a,b) x=>k ⟨h1,.inr h3⟩)).symm
        · rw[if_neg h3,←same]
          exact go x (if_pos (show KeepP o (a,b) x from fun k=>k.2.elim h2 h3)).symm
    · rw[if_neg h1,←same]
      exact go x (if_pos (show KeepP o (a,b) x from fun k=>h1 k.1)).symm
theorem need_rng {t a b:Int} (ht:0≤t∧t<35184372088832) (ha:1≤a) (hb:1≤b) (hb1:b≤1099511627776) (hm:b % a=0):0≤t / b*(b / a)∧t / b*(b / a)≤t∧1≤b / a∧b / a≤1099511627776:=by
  have hp:=factor_pos ha hb hm
  have q:=(edvm (t:=t) ha hb hm).2
  have h0:0≤t / b:=Int.ediv_nonneg ht.1 (by omega)
  have h1:t / b*(b / a)≤t / a:=by rw[←q];exact Int.ediv_mul_le _ (by omega)
  have h2:t / a≤t:=Int.ediv_le_self _ ht.1
  have h3:b / a≤b:=Int.ediv_le_self _ (by omega)
  exact ⟨Int.mul_nonneg h0 (by omega),by omega,by omega,by omega⟩
theorem need_quo {a b:Int} (ha:1≤a) (hb:1≤b) (hb1:b≤1099511627776):IntKind.wrap .i64 (Int.tdiv b a)=b / a:=quo_at ⟨by omega,by omega⟩ ha
theorem needed_0 (n:Nat) {c:Conf} (h:OkC c) {t:Int} (ht:0≤t∧t<35184372088832):sweep_needed (n+1) c t 0=some (need0 c t):=by
  have hr:=h.rng
  obtain ⟨a1,a2,a3,a4⟩:=need_rng ht hr.w0.1 hr.w1.1 hr.w1.2 h.m1
  rw[sweep_needed_eq_0,tfd,if_neg (nz hr.w0.1),tfd,if_neg (nz hr.w1.1),quo_at ht hr.w1.1,need_quo hr.w0.1 hr.w1.1 hr.w1.2,w64 (x:=t / c.2.1.2.1*(c.2.1.2.1 / c.2.1.1)) (by omega) (by omega),w64 (by omega) (by omega)];rfl
theorem needed_1 (n:Nat) {c:Conf} (h:OkC c) {t:Int} (ht:0≤t∧t<35184372088832):sweep_needed (n+1) c t 1=some (need1 c t):=by
  have hr:=h.rng
  obtain ⟨a1,a2,a3,a4⟩:=need_rng ht hr.w1.1 hr.w2.1 hr.w2.2 h.m2
  rw[sweep_needed_eq_1,tfd,if_neg (nz hr.w1.1),tfd,if_neg (nz hr.w2.1),quo_at ht hr.w2.1,need_quo hr.w1.1 hr.w2.1 hr.w2.2,w64 (x:=t / c.2.1.2.2*(c.2.1.2.2 / c.2.1.2.1)) (by omega) (by omega),w64 (by omega) (by omega)];rfl
theorem fade_0 (n:Nat) {c:Conf} (h:OkC c) (x:Ser) (ht:0≤x.2.1∧x.2.1<35184372088832) (hL:x.2.2.2.1.1.length≤1000000) (o:Int):sweep_fade (n+2) c x 0 o=some (fadeT o (need0 c x.2.1) x.2.2.2.1.1):=by
  rw[sweep_fade_eq_0,needed_0 n h ht,obs,clone_slot n _ hL,obs]
  have e:=fade_l4 (n+1) o (need0 c x.2.1).1 (need0 c x.2.1).2 x.2.2.2.1.1 [] loopFuel 0 (x.2.2.2.1.1.length:Int) (by simpa using hL) rfl (by simp) (by unfold loopFuel;omega)
  rw[List.nil_append] at e
  rw[e,obs,selim_inl];rfl
theorem fade_1 (n:Nat) {c:Conf} (h:OkC c) (x:Ser) (ht:0≤x.2.1∧x.2.1<35184372088832) (hL:x.2.2.2.1.2.1.length≤1000000) (o:Int):sweep_fade (n+2) c x 1 o=some (fadeT o (need1 c x.2.1) x.2.2.2.1.2.1):=by
  rw[sweep_fade_eq_1,needed_1 n h ht,obs,clone_slot n _ hL,obs]
  have e:=fade_l4 (n+1) o (need1 c x.2.1).1 (need1 c x.2.1).2 x.2.2.2.1.2.1 [] loopFuel 0 (x.2.2.2.1.2.1.length:Int) (by simpa using hL) rfl (by simp) (by unfold loopFuel;omega)
  rw[List.nil_append] at e
  rw[e,obs,selim_inl];rfl
theorem fade_2 (n:Nat) (c:Conf) (x:Ser) (hL:x.2.2.2.1.2.2.length≤1000000) (o:Int):sweep_fade (n+2) c x 2 o=some (fadeT o (0,0) x.2.2.2.1.2.2):=by
  rw[sweep_fade_eq_2,sweep_needed_eq_2,obs,clone_slot n _ hL,obs]
  have e:=fade_l4 (n+1) o 0 0 x.2.2.2.1.2.2 [] loopFuel 0 (x.2.2.2.1.2.2.length:Int) (by simpa using hL) rfl (by simp) (by unfold loopFuel;omega)
  rw[List.nil_append] at e
  rw[e,obs,selim_inl];rfl
theorem time_of {s:Sta} (h:StaOk s) {x:Ser} (hx:SerOk s.1 x) (h0:0≤x.2.1):0≤x.2.1∧x.2.1<35184372088832:=serOk_at hx (by omega)
theorem clean_l10 (n:Nat) {s:Sta} (h:StaOk s) {x:Ser} (hx:SerOk s.1 x) (h0:0≤x.2.1) (s2:Sta) (out:List Ser) (i:Int) (L:List Int) (q1 q2:Int) (f:Nat) :
    sweep_Clean_l10 (n+14) (f+4) (s,s2,out,i,x,L,q1,q2,s.1.2.1,(0:Int),())=some (.inl (s,s2,out,i,cleanX s.1 s.2.1 x,L,q1,q2,())):=by
  have hr:=h.whole.1.rng
  have ht:=h.clock.1
  have hc:=h.whole.1
  have hT:=time_of h hx h0
  have l0:=hx.fold.t0.l1;have l1:=hx.fold.t1.l1;have l2:=hx.fold.t2.l1
  rw[sweep_Clean_l10_eq_0,wi_oldest (n+10),obs,tfn,decide_eq_true (old_none ⟨ht.1,ht.2,hr.w0.1,hr.w0.2⟩ hr.n0),tft,fade_0 (n+12) hc x hT (by omega),obs]
  generalize e0:fadeT (oldV s.2.1 s.1.2.1.1 s.1.2.2.1.1).1 (need0 s.1 x.2.1) x.2.2.2.1.1=F0
  rw[sweep_Clean_l10_eq_1,wi_oldest (n+10),obs,tfn,decide_eq_true (old_none ⟨ht.1,ht.2,hr.w1.1,hr.w1.2⟩ hr.n1),tft,
    fade_1 (n+12) hc (x.1,(x.2.1,(x.2.2.1,((F0,x.2.2.2.1.2),x.2.2.2.2)))) hT (by show x.2.2.2.1.2.1.length≤_;omega),obs]
  dsimp only
  generalize e1:fadeT (oldV s.2.1 s.1.2.1.2.1 s.1.2.2.1.2.1).1 (need1 s.1 x.2.1) x.2.2.2.1.2.1=F1
  rw[sweep_Clean_l10_eq_2,wi_oldest (n+10),obs,tfn,decide_eq_true (old_none ⟨ht.1,ht.2,hr.w2.1,hr.w2.2⟩ hr.n2),tft,
    fade_2 (n+12) s.1 (x.1,(x.2.1,(x.2.2.1,((F0,(F1,x.2.2.2.1.2.2)),x.2.2.2.2)))) (by show x.2.2.2.1.2.2.length≤_;omega),obs,sweep_Clean_l10_eq_3]
  subst e0 e1
  rfl
noncomputable def cleanO (s:Sta) (L:List Int) (out:List Ser):List Ser:=L.foldl (fun o z=>o.set z.toNat (cleanX s.1 s.2.1 ((s.2.2.2[z.toNat]?).getD ser0))) out
theorem clean_l6 (n:Nat) {s:Sta} (h:StaOk s) (s2:Sta) (L:List Int) (hL:L.length≤1000000) (hm:∀z∈L,0≤z∧∃y,s.2.2.2[z.toNat]? = some y∧SerOk s.1 y∧0≤y.2.1):∀(rest pre:List Int) (f:Nat) (out:List Ser) (ix len:Int),L=pre++rest→ix=pre.length→len=L.length→rest.length<f→out.length=s.2.2.2.length →
    sweep_Clean_l6 (n+14) f (s,s2,out,L,len,ix,())=some (.inl (s,s2,cleanO s rest out,())):=by
  intro rest
  induction rest with
  | nil =>
    intro pre f out ix len hl hi hn hf ho
    obtain ⟨f,rfl⟩:∃g,f=g+1:=⟨f-1,by simp at hf;omega⟩
    rw[sweep_Clean_l6_eq,decide_eq_false (idxe hl hi hn),tff];rfl
  | cons z rest ih =>
    intro pre f out ix len hl hi hn hf ho
    obtain ⟨f,rfl⟩:∃g,f=g+1:=⟨f-1,by simp at hf;omega⟩
    obtain ⟨h0,y,hy,hs,hy0⟩:=hm z (by rw[hl];simp)
    have hlt:z.toNat<out.length:=by rw[ho];exact (List.getElem?_eq_some_iff.1 hy).1
    have hg:out[z.toNat]? = some out[z.toNat]:=List.getElem?_eq_getElem hlt
    have e10:=clean_l10 n h hs hy0 s2 out z L len ix (2^70-4)
    rw[show 2^70-4+4=loopFuel from by decide] at e10
    rw[sweep_Clean_l6_eq,decide_eq_true (idx hl hi hn),tft,at_mid hl hi,obs,get_mid hl hi,obs,at_nn h0 hy,obs,e10,obs,selim_inl]
    dsimp only
    rw[at_nn h0 hg,obs,hg,obs,idxw hl hi (show L.length≤1000000000000 by omega),ih (pre++[z]) f _ (ix+1) len (idxl hl) (idxs hi) hn (by simp at hf;omega) (by simpa using ho)]
    unfold cleanO
    rw[List.foldl_cons,hy];rfl
theorem set_fold {α:Type} (g:Int→α) (j:Nat):∀(L:List Int) (out:List α),(∀z∈L,0≤z)→(L.foldl (fun o z=>o.set z.toNat (g z)) out)[j]? = if (j:Int)∈L then (if j<out.length then some (g j) else none) else out[j]? := by
  intro L
  induction L with
  | nil=>intro out _;simp
  | cons z L ih =>
    intro out hz
    have h0:=hz z (by simp)
    rw[List.foldl_cons,ih _ (fun y hy=>hz y (by simp[hy])),List.length_set]
    by_cases h:(j:Int)∈L
    · rw[if_pos h,if_pos (show (j:Int)∈z::L by simp[h])]
    · rw[if_neg h,List.getElem?_set]
      by_cases e:z.toNat=j
      · have e':z=(j:Int):=by omega
        rw[if_pos e,if_pos (show (j:Int)∈z::L by simp[e']),e,e']
      · rw[if_neg e,if_neg (show ¬(j:Int)∈z::L by simp[h];omega)]
theorem cleanO_all {s:Sta} (h:StaOk s):cleanO s ((liveV s).map Int.ofNat) (List.replicate s.2.2.2.length ser0)=s.2.2.2.map (cleanP s):=by
  apply List.ext_getElem?
  intro j
  unfold cleanO
  rw[set_fold (fun z=>cleanX s.1 s.2.1 ((s.2.2.2[z.toNat]?).getD ser0)) j _ _ (fun z hz=>(live_at hz).1),List.getElem?_map,List.length_replicate]
  have hmem:((j:Int)∈(liveV s).map Int.ofNat)↔lvAt s j=true:=by
    constructor
    · intro hz
      obtain ⟨i,hi,e⟩:=List.mem_map.1 hz
      have e:i=j:=by injection e
      rw[←e];exact (List.mem_filter.1 hi).2
    · intro hl
      exact List.mem_map.2 ⟨j,List.mem_filter.2 ⟨List.mem_range.2 (lvAt_lt hl),hl⟩,rfl⟩
  by_cases hl:lvAt s j=true
  · obtain ⟨x,hx,hlx⟩:=lvAt_iff.1 hl
    rw[if_pos (hmem.2 hl),if_pos (lvAt_lt hl),hx]
    simp only[Option.map_some,Int.toNat_natCast,hx,Option.getD_some]
    exact congrArg some (if_pos hlx).symm
  · rw[if_neg (fun k=>hl (hmem.1 k)),List.getElem?_replicate]
    cases hx:s.2.2.2[j]? with
    | none=>rw[if_neg (by have:=List.getElem?_eq_none_iff.1 hx;omega)];rfl
    | some x =>
      rw[if_pos (List.getElem?_eq_some_iff.1 hx).1]
      have hn:¬LvX s x:=fun k=>hl (lvAt_iff.2 ⟨x,hx,k⟩)
      exact congrArg some (if_neg hn).symm
noncomputable def cleanV (s:Sta):Sta×Int:=if StaOk s then (cleanS s,0) else (sta0,2)
theorem live_all_ok {s:Sta} (h:StaOk s):∀z∈(liveV s).map Int.ofNat,0≤z∧∃y,s.2.2.2[z.toNat]? = some y∧SerOk s.1 y∧0≤y.2.1:=by
  intro z hz
  obtain ⟨h0,y,hy,hl⟩:=live_at hz
  exact ⟨h0,y,hy,live_ok h (List.mem_of_getElem? hy) hl⟩
theorem sweep_clean (n:Nat) {s:Sta} (hw:StaW s):sweep_Clean (n+15) s=some (cleanV s):=by
  rw[sweep_Clean_eq,stt_check n hw,obs,tfn]
  unfold cleanV
  by_cases h:StaOk s
  case neg=>rw[chk_no h,if_neg h,if_neg h];rfl
  have hlen:=h.whole.len
  have hL:((liveV s).map Int.ofNat).length≤1000000:=by have:=live_len s;simp;omega
  have e:liveR s=(liveV s).map Int.ofNat:=if_pos h.whole
  have e6:=clean_l6 n h sta0 _ hL (live_all_ok h) _ [] loopFuel (List.replicate s.2.2.2.length ser0) 0 _ rfl rfl rfl (by unfold loopFuel;omega) (by simp)
  rw[cleanO_all h] at e6
  rw[chk_ok h,if_pos h,decide_eq_true (by omega),decide_eq_true (Int.le_refl _),decide_eq_true (show (s.2.2.2.length:Int)*264≤140737488355328 by omega),Bool.and_self,Bool.and_self,tft,stt_live (n+6) hw,obs,e,Int.toNat_natCast]
  change obind (sweep_Clean_l6 (n+14) loopFuel (s,sta0,List.replicate s.2.2.2.length ser0,(liveV s).map Int.ofNat,(((liveV s).map Int.ofNat).length:Int),(0:Int),())) _=_
  rw[e6,obs,selim_inl];rfl
theorem cleanX_w {c:Conf} {now:Int} {x:Ser} (hx:SerW x∧SerM x):SerW (cleanX c now x)∧SerM (cleanX c now x):=by
  obtain ⟨⟨h1,h2,h3,h4⟩,m1,m2,m3,m4,m5⟩:=hx
  have fw:∀(o:Int) (r:Int×Int) (l:List Slo),(∀z∈l,SloW z)→∀z∈fadeT o r l,SloW z:=by
    intro o r l hl z hz
    obtain ⟨y,hy,e⟩:=List.mem_map.1 hz
    split at e
    · rw[←e];exact hl y hy
    · rw[←e];exact slow_s0
  refine ⟨⟨h1,h2,?_,h4⟩,m1,m2,by simpa [cleanX,fadeT_len] using m3,by simpa [cleanX,fadeT_len] using m4,by simpa [cleanX,fadeT_len] using m5⟩
  obtain ⟨t1,t2,t3⟩:=h3
  exact ⟨fw _ _ _ t1,fw _ _ _ t2,fw _ _ _ t3⟩
theorem cleanS_w {s:Sta} (hw:StaW s):StaW (cleanS s):=by
  refine ⟨by simpa [cleanS] using hw.len,fun x hx => ?_⟩
  obtain ⟨y,hy,e⟩:=List.mem_map.1 hx
  unfold cleanP at e
  split at e
  · rw[←e];exact cleanX_w (hw.ser y hy)
  · rw[←e];exact ⟨ser0_w,ser0_m⟩
end Go.Proofs.YtjeabebacegikaaGreatDoor

namespace Go.Plim
open Go.Flat Go.Proofs.YtjeabebacegikaaGreatDoor
set_option linter.unusedVariables false
set_option linter.unusedSimpArgs false
abbrev Cnt:=Int×(Int×(Int×(Int×(Int×(Int×(Int×Int))))))
abbrev inc1 (x:Int):Int:=IntKind.wrap .i64 (x+1)
noncomputable def cnt1 (s:Sta) (t:Cnt) (x:Ser):Cnt :=
  if x=ser0 then (t.1,(t.2.1,(inc1 t.2.2.1,t.2.2.2)))
  else if LvX s x then
    (inc1 t.1,(t.2.1,(t.2.2.1,(IntKind.wrap .i64 (t.2.2.2.1+(((List.length x.2.2.1.2.2):Nat):Int)),(IntKind.wrap .i64 (t.2.2.2.2.1+x.2.2.1.1),
      (IntKind.wrap .i64 (t.2.2.2.2.2.1+(((List.length (tall x.2.2.2.1.1)):Nat):Int)),(IntKind.wrap .i64 (t.2.2.2.2.2.2.1+(((List.length (tall x.2.2.2.1.2.1)):Nat):Int)),
        IntKind.wrap .i64 (t.2.2.2.2.2.2.2+(((List.length (tall x.2.2.2.1.2.2)):Nat):Int)))))))))
  else (t.1,(inc1 t.2.1,t.2.2))
def cnt0:Cnt:=(0,(0,(0,(0,(0,(0,(0,0)))))))
noncomputable def cntV (s:Sta):Cnt:=s.2.2.2.foldl (cnt1 s) cnt0
noncomputable def goes (s:Sta) (x:Ser):Bool:=decide (LvX s x)&&deadV s.1 x.2.1 s.2.1
noncomputable def due1 (s:Sta) (d:Int) (x:Ser):Int:=if goes s x=true then inc1 d else d
theorem range_filter {α:Type} (p:α→Bool):∀(l:List α),((List.range l.length).filter fun i=>match l[i]? with | some x=>p x | none=>false).length=l.countP p:=by
  intro l
  induction l with
  | nil=>rfl
  | cons x l ih =>
    rw[List.length_cons,List.range_succ_eq_map,List.filter_cons,List.countP_cons]
    have e:(((List.range l.length).map Nat.succ).filter fun i=>match (x::l)[i]? with | some x=>p x | none=>false).length=l.countP p:=by
      rw[List.filter_map,List.length_map];exact ih
    simp only[List.getElem?_cons_zero]
    by_cases hp:p x=true
    · rw[if_pos hp,if_pos hp,List.length_cons,e]
    · rw[if_neg hp,if_neg hp,e,Nat.add_zero]
theorem dueV_len {s:Sta} (h:StaOk s):(dueV s).length=s.2.2.2.countP (goes s):=by
  unfold dueV liveV
  rw[if_pos h,List.filter_filter,←range_filter]
  congr 1
  refine List.filter_congr fun i hi => ?_
  unfold lvAt dueAt goes
  cases s.2.2.2[i]? with
  | none=>rfl
  | some x=>simp only;rw[Bool.and_comm]
theorem cnt_num (s:Sta):∀(l:List Ser) (t:Cnt),(0≤t.1∧0≤t.2.1∧0≤t.2.2.1)→t.1+l.length≤1000000→t.2.1+l.length≤1000000→t.2.2.1+l.length≤1000000 →
    (l.foldl (cnt1 s) t).1=t.1+((l.countP fun x=>decide (LvX s x):Nat):Int)∧(l.foldl (cnt1 s) t).2.1=t.2.1+((l.countP fun x=>decide (x≠ser0∧¬LvX s x):Nat):Int) ∧
      (l.foldl (cnt1 s) t).2.2.1=t.2.2.1+((l.countP fun x=>decide (x=ser0):Nat):Int):=by
  intro l
  induction l with
  | nil=>intro t _ _ _ _;simp
  | cons x l ih =>
    intro t h0 h1 h2 h3
    simp only[List.length_cons] at h1 h2 h3
    simp only[List.foldl_cons,List.countP_cons]
    have hw:∀a:Int,0≤a→a≤1000000→inc1 a=a+1:=fun a ha hb=>w64 (by omega) (by omega)
    by_cases he:x=ser0
    · have hl:¬LvX s x:=fun k=>k.1 he
      have e:cnt1 s t x=(t.1,(t.2.1,(inc1 t.2.2.1,t.2.2.2))):=by unfold cnt1;rw[if_pos he]
      have e3:=hw t.2.2.1 h0.2.2 (by omega)
      obtain ⟨k1,k2,k3⟩:=ih (cnt1 s t x) (by rw[e];simp only[e3];omega) (by rw[e];simp only;omega) (by rw[e];simp only;omega) (by rw[e];simp only[e3];omega)
      rw[k1,k2,k3,e]
      simp only[e3]
      simp[he,show ¬LvX s ser0 from he ▸ hl]
      omega
    · by_cases hl:LvX s x
      · have e:cnt1 s t x=(inc1 t.1,(t.2.1,(t.2.2.1,(cnt1 s t x).2.2.2))):=by unfold cnt1;rw[if_neg he,if_pos hl]
        have e3:=hw t.1 h0.1 (by omega)
        obtain ⟨k1,k2,k3⟩:=ih (cnt1 s t x) (by rw[e];simp only[e3];omega) (by rw[e];simp only[e3];omega) (by rw[e];simp only;omega) (by rw[e];simp only;omega)
        rw[k1,k2,k3,e]
        simp only[e3]
        simp[he,hl]
        omega
      · have e:cnt1 s t x=(t.1,(inc1 t.2.1,t.2.2)):=by unfold cnt1;rw[if_neg he,if_neg hl]
        have e3:=hw t.2.1 h0.2.1 (by omega)
        obtain ⟨k1,k2,k3⟩:=ih (cnt1 s t x) (by rw[e];simp only[e3];omega) (by rw[e];simp only;omega) (by rw[e];simp only[e3];omega) (by rw[e];simp only;omega)
        rw[k1,k2,k3,e]
        simp only[e3]
        simp[he,hl]
        omega
theorem due_num (s:Sta):∀(l:List Ser) (d:Int),0≤d→d+l.length≤1000000→l.foldl (due1 s) d=d+((l.countP (goes s):Nat):Int):=by
  intro l
  induction l with
  | nil=>intro d _ _;simp
  | cons x l ih =>
    intro d h0 h1
    simp only[List.length_cons] at h1
    simp only[List.foldl_cons,List.countP_cons]
    unfold due1
    split
    · rename_i h
      have e:inc1 d=d+1:=w64 (by omega) (by omega)
      have:=ih (inc1 d) (by omega) (by omega)
      unfold due1 at this
      rw[this,e];omega
    · have:=ih d h0 (by omega)
      unfold due1 at this
      rw[this];simp
noncomputable def ev1 (s:Sta) (a:Int) (x:Ser):Int:=if LvX s x then IntKind.wrap .i64 (a+(((List.length x.2.2.1.2.2):Nat):Int)) else a
theorem cnt_ev (s:Sta):∀(l:List Ser) (t:Cnt),(l.foldl (cnt1 s) t).2.2.2.1=l.foldl (ev1 s) t.2.2.2.1:=by
  intro l
  induction l with
  | nil=>intro t;rfl
  | cons x l ih =>
    intro t
    simp only[List.foldl_cons]
    rw[ih]
    congr 1
    unfold cnt1 ev1
    by_cases he:x=ser0
    · have hl:¬LvX s x:=fun k=>k.1 he
      rw[if_pos he,if_neg hl]
    · by_cases hl:LvX s x
      · rw[if_neg he,if_pos hl,if_pos hl]
      · rw[if_neg he,if_neg hl,if_neg hl]
theorem countP_split {α:Type} (p q r:α→Bool):∀(l:List α),(∀x∈l,(p x=true↔q x=true∨r x=true)∧¬(q x=true∧r x=true))→l.countP p=l.countP q+l.countP r:=by
  intro l
  induction l with
  | nil=>intro _;rfl
  | cons x l ih =>
    intro h
    have h1:=h x (by simp)
    have h2:=ih fun y hy=>h y (by simp[hy])
    simp only[List.countP_cons]
    cases hp:p x<;>cases hq:q x<;>cases hr:r x<;>simp_all<;>omega
theorem countP_all {α:Type} (p q r:α→Bool):∀(l:List α),(∀x∈l,(p x=true∨q x=true∨r x=true)∧¬(p x=true∧q x=true)∧¬(p x=true∧r x=true)∧¬(q x=true∧r x=true))→l.countP p+l.countP q+l.countP r=l.length:=by
  intro l
  induction l with
  | nil=>intro _;rfl
  | cons x l ih =>
    intro h
    have h1:=h x (by simp)
    have h2:=ih fun y hy=>h y (by simp[hy])
    simp only[List.countP_cons,List.length_cons]
    cases hp:p x<;>cases hq:q x<;>cases hr:r x<;>simp_all<;>omega
noncomputable def nLive (s:Sta):Nat:=s.2.2.2.countP fun x=>decide (LvX s x)
noncomputable def nDead (s:Sta):Nat:=s.2.2.2.countP fun x=>decide (x≠ser0∧¬LvX s x)
noncomputable def nEmpty (s:Sta):Nat:=s.2.2.2.countP fun x=>decide (x=ser0)
noncomputable def nDue (s:Sta):Nat:=s.2.2.2.countP (goes s)
theorem n_all (s:Sta):nLive s+nDead s+nEmpty s=s.2.2.2.length:=by
  refine countP_all _ _ _ _ fun x _ => ?_
  by_cases he:x=ser0
  · have hl:¬LvX s x:=fun k=>k.1 he
    simp[he,show ¬LvX s ser0 from he ▸ hl]
  · by_cases hl:LvX s x<;>simp[he,hl]
theorem n_swept {s:Sta} (h:StaOk s):nLive s=nLive (sweptS s)+nDue s:=by
  refine countP_split _ _ _ _ fun x hx => ?_
  have h1:=swept_lv (x:=x) h
  have h2:=fun k=>swept_of h (x:=x) k
  unfold goes
  simp only[decide_eq_true_eq,Bool.and_eq_true]
  constructor
  · constructor
    · intro k
      by_cases hd:deadV s.1 x.2.1 s.2.1=true
      · exact .inr ⟨k,hd⟩
      · exact .inl (h1.2 ⟨k.1,by simpa using hd⟩)
    · rintro (k | k)
      · exact h2 k
      · exact k.1
  · rintro ⟨k1,_,k2⟩
    have:=(h1.1 k1).2
    rw[this] at k2;cases k2
theorem n_swept_empty (s:Sta):nEmpty (sweptS s)=nEmpty s:=rfl
theorem n_swept_due {s:Sta} (h:StaOk s):nDue (sweptS s)=0:=by
  unfold nDue
  rw[List.countP_eq_zero]
  intro x _
  unfold goes
  simp only[Bool.and_eq_true,decide_eq_true_eq]
  rintro ⟨k1,k2⟩
  have:=((swept_lv (x:=x) h).1 k1).2
  have e:deadV (sweptS s).1 x.2.1 (sweptS s).2.1=deadV s.1 x.2.1 s.2.1:=rfl
  rw[e,this] at k2;cases k2
theorem n_clean {s:Sta} (h:StaOk s):nLive (cleanS s)=nLive s∧nDead (cleanS s)=0:=by
  constructor
  · unfold nLive
    have:(cleanS s).2.2.2=s.2.2.2.map (cleanP s):=rfl
    rw[this,List.countP_map]
    refine List.countP_congr fun x hx => ?_
    have:=cleanP_lv h hx
    simp only[Function.comp,decide_eq_true_eq]
    exact this
  · unfold nDead
    have:(cleanS s).2.2.2=s.2.2.2.map (cleanP s):=rfl
    rw[this,List.countP_map,List.countP_eq_zero]
    intro x hx
    simp only[Function.comp,decide_eq_true_eq]
    rintro ⟨k1,k2⟩
    have k3:¬LvX s x:=fun k=>k2 ((cleanP_lv h hx).2 k)
    unfold cleanP at k1
    rw[if_neg k3] at k1
    exact k1 rfl
theorem ev_clean {s:Sta} (h:StaOk s):(cleanS s).2.2.2.foldl (ev1 (cleanS s)) 0=s.2.2.2.foldl (ev1 s) 0:=by
  have:(cleanS s).2.2.2=s.2.2.2.map (cleanP s):=rfl
  rw[this,List.foldl_map]
  have key:∀(l:List Ser) (a:Int),(∀x∈l,x∈s.2.2.2)→l.foldl (fun a x=>ev1 (cleanS s) a (cleanP s x)) a=l.foldl (ev1 s) a:=by
    intro l
    induction l with
    | nil=>intro a _;rfl
    | cons x l ih =>
      intro a hm
      simp only[List.foldl_cons]
      rw[ih _ fun y hy=>hm y (by simp[hy])]
      congr 1
      have hx:=cleanP_lv h (hm x (by simp))
      have hx':LvX (cleanS s) (cleanP s x)↔LvX s x:=hx
      unfold ev1
      by_cases hl:LvX s x
      · rw[if_pos (hx'.2 hl),if_pos hl]
        unfold cleanP
        rw[if_pos hl];rfl
      · rw[if_neg (fun k=>hl (hx'.1 k)),if_neg hl]
  exact key _ _ fun x hx=>hx
end Go.Plim

namespace Go.Proofs.YtjeabebacegikaaGreatDoor
open Go.Flat Go.Plim
set_option linter.unusedVariables false
set_option linter.unusedSimpArgs false
def mkS (t:Cnt) (d:Int):TStats:=(t.1,(t.2.1,(t.2.2.1,(t.2.2.2.1,(t.2.2.2.2.1,((t.2.2.2.2.2.1,(t.2.2.2.2.2.2.1,t.2.2.2.2.2.2.2)),d))))))
theorem mkS_zero:mkS cnt0 0=((0:Int),((0:Int),((0:Int),((0:Int),((0:Int),(((0:Int),((0:Int),(0:Int))),(0:Int))))))):=rfl
theorem stat_one_val (n:Nat) {s:Sta} {x:Ser} (h:SerOk s.1 x) (hl:LvX s x) (c:Cnt) (d:Int):stat_one (n+18) (mkS c d) s x=some (mkS (cnt1 s c x) (due1 s d x)):=by
  rw[stat_one_eq,tier_all n h.fold.t0,obs,tier_all n h.fold.t1,obs,tier_all n h.fold.t2,obs,series_dead (n+11),obs]
  have e1:cnt1 s c x=(inc1 c.1,(c.2.1,(c.2.2.1,(cnt1 s c x).2.2.2))):=by unfold cnt1;rw[if_neg hl.1,if_pos hl]
  have e2:due1 s d x=if deadV s.1 x.2.1 s.2.1=true then inc1 d else d:=by
    unfold due1 goes;rw[decide_eq_true hl,Bool.true_and]
  rw[e2]
  unfold cnt1
  rw[if_neg hl.1,if_pos hl,tif_ite]
  split<;>rfl
theorem empty_labs {s:Sta} (h:StaOk s) {i:Nat} {x:Ser} (hx:s.2.2.2[i]? = some x):((((List.length x.1):Nat):Int)=0)↔x=ser0:=by
  constructor
  · intro h0
    rcases h.right i x hx with k | ⟨k,_⟩
    · exact k
    · exfalso
      have:=k.lab.n0;omega
  · intro e;subst e;rfl
theorem lives_at {s:Sta} (h:StaOk s) {i:Nat} {x:Ser} (hx:s.2.2.2[i]? = some x):livesB s (i:Int)=decide (LvX s x):=by
  unfold livesB lvAt
  rw[Int.toNat_natCast,hx]
  by_cases hl:LvX s x
  · rw[decide_eq_true hl,decide_eq_true ⟨h.whole,by omega,decide_eq_true hl⟩]
  · rw[decide_eq_false hl]
    exact decide_eq_false fun k=>hl (of_decide_eq_true k.2.2)
theorem stat_of_l6 (n:Nat) {s:Sta} (hw:StaW s) (h:StaOk s) (z:TStats):∀(rest pre:List Ser) (f:Nat) (c:Cnt) (d i:Int),s.2.2.2=pre++rest→i=pre.length→rest.length<f →
    stat_Of_l6 (n+18) f (s,(z,(mkS c d,(s.2.2.2,((((List.length s.2.2.2):Nat):Int),(i,()))))))=some (.inl (z,(mkS (rest.foldl (cnt1 s) c) (rest.foldl (due1 s) d),()))):=by
  intro rest
  induction rest with
  | nil =>
    intro pre f c d i he hi hf
    obtain ⟨f,rfl⟩:∃g,f=g+1:=⟨f-1,by omega⟩
    rw[stat_Of_l6_eq]
    simp only[tfd]
    rw[if_neg (by rw[he];simp;omega)]
    rfl
  | cons x rest ih =>
    intro pre f c d i he hi hf
    obtain ⟨f,rfl⟩:∃g,f=g+1:=⟨f-1,by simp at hf;omega⟩
    simp only[List.length_cons] at hf
    have hx:s.2.2.2[pre.length]? = some x:=by rw[he];simp
    have hlen:=hw.len
    have hnext:IntKind.wrap .i64 (i+(1:Int))=((pre++[x]).length:Int):=by
      rw[he] at hlen
      simp only[List.length_append,List.length_cons] at hlen ⊢
      rw[w64 (by omega) (by omega)];simp;omega
    have go:=fun c d=>ih (pre++[x]) f c d (IntKind.wrap .i64 (i+(1:Int))) (by rw[he];simp) hnext (by omega)
    rw[stat_Of_l6_eq]
    simp only[tfd]
    rw[if_pos (by rw[he,hi];simp;omega),hi,at_el hx,obs]
    rw[hi] at go
    simp only[List.foldl_cons]
    by_cases hz:x=ser0
    · rw[if_pos ((empty_labs h hx).2 hz)]
      have e1:cnt1 s c x=(c.1,(c.2.1,(inc1 c.2.2.1,c.2.2.2))):=by unfold cnt1;rw[if_pos hz]
      have e2:due1 s d x=d:=by
        unfold due1 goes
        rw[decide_eq_false (fun k:LvX s x=>k.1 hz),Bool.false_and];rfl
      rw[e1,e2]
      exact go (c.1,(c.2.1,(inc1 c.2.2.1,c.2.2.2))) d
    · rw[if_neg (fun k=>hz ((empty_labs h hx).1 k)),stt_lives (n+10) hw,obs,lives_at h hx]
      by_cases hl:LvX s x
      · rw[decide_eq_true hl,tft,stat_one_val n (live_ok h (List.mem_of_getElem? hx) hl).1 hl,obs]
        exact go _ _
      · rw[decide_eq_false hl,tff]
        have e1:cnt1 s c x=(c.1,(inc1 c.2.1,c.2.2)):=by unfold cnt1;rw[if_neg hz,if_neg hl]
        have e2:due1 s d x=d:=by
          unfold due1 goes
          rw[decide_eq_false hl,Bool.false_and];rfl
        rw[e1,e2]
        exact go (c.1,(inc1 c.2.1,c.2.2)) d
noncomputable def statV (s:Sta):TStats×Int:=if StaOk s then (mkS (cntV s) ((nDue s:Nat):Int),0) else (mkS cnt0 0,2)
theorem due_fold {s:Sta} (h:StaOk s):s.2.2.2.foldl (due1 s) 0=((nDue s:Nat):Int):=by
  have:=h.whole.len
  rw[due_num s _ 0 (by omega) (by omega)]
  unfold nDue;omega
theorem stat_of (n:Nat) {s:Sta} (hw:StaW s):stat_Of (n+19) s=some (statV s):=by
  rw[stat_Of_eq,stt_check (n+4) hw,obs,tfn]
  unfold statV
  by_cases h:StaOk s
  case neg=>rw[chk_no h,if_neg h,if_neg h];rfl
  rw[chk_ok h,if_pos h]
  have:=stat_of_l6 n hw h (mkS cnt0 0) s.2.2.2 [] loopFuel cnt0 0 0 rfl rfl (by have:=h.whole.len;unfold loopFuel;omega)
  rw[mkS_zero] at this
  rw[this,obs,selim_inl,due_fold h]
  rfl
end Go.Proofs.YtjeabebacegikaaGreatDoor

namespace Go.Plim
set_option linter.unusedVariables false
def tz:Nat→Nat→Nat
  | 0,_=>0
  | k+1,x=>if x % 2=1 then 0 else tz k (x / 2)+1
def bl:Nat→Nat→Nat
  | 0,_=>0
  | k+1,x=>if x=0 then 0 else bl k (x / 2)+1
end Go.Plim

namespace Go.Plim
set_option linter.unusedVariables false
end Go.Plim

namespace Go.Plim
set_option linter.unusedVariables false
def ofN (x:Nat):Wd:=(((x / 18446744073709551616:Nat):Int),((x % 18446744073709551616:Nat):Int))
end Go.Plim

namespace Go.Plim
set_option linter.unusedVariables false
end Go.Plim

namespace Go.Proofs.YtjeabebacegikaaGreatDoor
open Go.Flat Go.Plim
set_option linter.unusedVariables false
set_option linter.unusedSimpArgs false
end Go.Proofs.YtjeabebacegikaaGreatDoor
namespace Go.Proofs.YtjeabebacegikaaGreatDoor
open Go.Flat Go.Plim
set_option linter.unusedVariables false
end Go.Proofs.YtjeabebacegikaaGreatDoor
namespace Go.Proofs.YtjeabebacegikaaGreatDoor
open Go.Flat Go.Plim
set_option linter.unusedVariables false
set_option linter.unusedSimpArgs false
def I64P (i:Int):Prop := -9223372036854775808≤i∧i≤9223372036854775807
structure StW (t:TStats):Prop where
  a:I64P t.1
  b:I64P t.2.1
  c:I64P t.2.2.1
  d:I64P t.2.2.2.1
  e:I64P t.2.2.2.2.1
  f:I64P t.2.2.2.2.2.1.1
  g:I64P t.2.2.2.2.2.1.2.1
  h:I64P t.2.2.2.2.2.1.2.2
  i:I64P t.2.2.2.2.2.2
end Go.Proofs.YtjeabebacegikaaGreatDoor
namespace Go.Proofs.YtjeabebacegikaaGreatDoor
open Go.Flat
theorem ob {α β:Type} {o:Option α} {x:α} {f:α→Option β} {r:Option β} (h:o=some x) (k:f x=r):obind o f=r:=by rw[h];exact k
theorem tt {α:Type} {b:Bool} {x y r:α} (h:b=true) (k:x=r):tif b x y=r:=by rw[h];exact k
theorem tf {α:Type} {b:Bool} {x y r:α} (h:b=false) (k:y=r):tif b x y=r:=by rw[h];exact k
end Go.Proofs.YtjeabebacegikaaGreatDoor
namespace Go.Proofs.YtjeabebacegikaaGreatDoor
open Go.Flat
set_option linter.unusedVariables false
theorem lvl33_lives_eq (n:Nat)  : l33_lives (n+1)  =
  obind (l10_Fit n ) fun r0 =>
  obind (stt_New n r0) fun r1 =>
  tif ((!(decide (r1.2=(0:Int))))) (
  some false) (
  obind (write_One n r1.1 ((((97:UInt8)::[]),[])::[]) ((5:Int),((1:Int),((0:Int),false)))) fun r2 =>
  obind (stat_Of n r2.1) fun r3 =>
  obind (stat_Of n (((0:Int),(((0:Int),((0:Int),(0:Int))),(((0:Int),((0:Int),(0:Int))),((0:Int),(0:Int))))),((0:Int),((0:Int),[])))) fun r4 =>
  tif ((decide (r2.2=(0:Int)))) (
  tif (((decide (r3.1.1=(1:Int)))&&((decide (r3.1.2.1=(0:Int)))&&((decide (r3.1.2.2.1=(2:Int)))&&((decide (r3.1.2.2.2.1=(1:Int)))&&((decide (r3.1.2.2.2.2.1=(0:Int)))&&((decide (r3.1.2.2.2.2.2.1.1=(0:Int)))&&((decide (r3.1.2.2.2.2.2.1.2.1=(0:Int)))&&((decide (r3.1.2.2.2.2.2.1.2.2=(0:Int)))&&(decide (r3.1.2.2.2.2.2.2=(0:Int)))))))))))) (
  tif ((decide (r3.2=(0:Int)))) (
  tif ((decide (r4.2=(2:Int)))) (
  obind (stat_Text n ((1:Int),((0:Int),((0:Int),((0:Int),(((-2):Int),(((4:Int),((5:Int),(6:Int))),(7:Int)))))))) fun r5 =>
  tif ((r5==((108:UInt8)::((105:UInt8)::((118:UInt8)::((101:UInt8)::((32:UInt8)::((49:UInt8)::((44:UInt8)::((32:UInt8)::((100:UInt8)::((101:UInt8)::((97:UInt8)::((100:UInt8)::((32:UInt8)::((48:UInt8)::((44:UInt8)::((32:UInt8)::((101:UInt8)::((109:UInt8)::((112:UInt8)::((116:UInt8)::((121:UInt8)::((32:UInt8)::((48:UInt8)::((44:UInt8)::((32:UInt8)::((101:UInt8)::((118:UInt8)::((101:UInt8)::((110:UInt8)::((116:UInt8)::((115:UInt8)::((32:UInt8)::((48:UInt8)::((44:UInt8)::((32:UInt8)::((108:UInt8)::((111:UInt8)::((115:UInt8)::((116:UInt8)::((32:UInt8)::((45:UInt8)::((50:UInt8)::((44:UInt8)::((32:UInt8)::((115:UInt8)::((108:UInt8)::((111:UInt8)::((116:UInt8)::((115:UInt8)::((32:UInt8)::((52:UInt8)::((32:UInt8)::((53:UInt8)::((32:UInt8)::((54:UInt8)::((44:UInt8)::((32:UInt8)::((100:UInt8)::((117:UInt8)::((101:UInt8)::((32:UInt8)::((55:UInt8)::[])))))))))))))))))))))))))))))))))))))))))))))))))))))))))))))))) (
  obind (stat_Full n r2.1) fun r6 =>
  some (!r6)) (
  some false)) (
  some false)) (
  some false)) (
  some false)) (
  some false)):=by kernel_rfl
theorem lvl33_lives_0 (n:Nat):l10_Fit (n+39)=some (20,((10,(20,60)),((4,(5,6)),(3,9)))):=by kernel_rfl
theorem lvl33_lives_1 (n:Nat):stt_New (n+39) (20,((10,(20,60)),((4,(5,6)),(3,9))))=some (((20,((10,(20,60)),((4,(5,6)),(3,9)))),(0,((-1),[([],(0,((0,(0,[])),(([],([],[])),(0,(0,((0,(0,(0,false))),((0,(0,(0,false))),((0,0),(0,(0,0))))))))))),([],(0,((0,(0,[])),(([],([],[])),(0,(0,((0,(0,(0,false))),((0,(0,(0,false))),((0,0),(0,(0,0))))))))))),([],(0,((0,(0,[])),(([],([],[])),(0,(0,((0,(0,(0,false))),((0,(0,(0,false))),((0,0),(0,(0,0)))))))))))]))),0):=by kernel_rfl
theorem lvl33_lives_2 (n:Nat):write_One (n+39) ((20,((10,(20,60)),((4,(5,6)),(3,9)))),(0,((-1),[([],(0,((0,(0,[])),(([],([],[])),(0,(0,((0,(0,(0,false))),((0,(0,(0,false))),((0,0),(0,(0,0))))))))))),([],(0,((0,(0,[])),(([],([],[])),(0,(0,((0,(0,(0,false))),((0,(0,(0,false))),((0,0),(0,(0,0))))))))))),([],(0,((0,(0,[])),(([],([],[])),(0,(0,((0,(0,(0,false))),((0,(0,(0,false))),((0,0),(0,(0,0)))))))))))]))) [([97],[])] (5,(1,(0,false)))=some (((20,((10,(20,60)),((4,(5,6)),(3,9)))),(0,((-1),[([([97],[])],(5,((0,(0,[(5,(1,(0,false)))])),(([(0,(0,((0,(0,(0,false))),((0,(0,(0,false))),((0,0),(0,(0,0))))))),(0,(0,((0,(0,(0,false))),((0,(0,(0,false))),((0,0),(0,(0,0))))))),(0,(0,((0,(0,(0,false))),((0,(0,(0,false))),((0,0),(0,(0,0))))))),(0,(0,((0,(0,(0,false))),((0,(0,(0,false))),((0,0),(0,(0,0)))))))],([(0,(0,((0,(0,(0,false))),((0,(0,(0,false))),((0,0),(0,(0,0))))))),(0,(0,((0,(0,(0,false))),((0,(0,(0,false))),((0,0),(0,(0,0))))))),(0,(0,((0,(0,(0,false))),((0,(0,(0,false))),((0,0),(0,(0,0))))))),(0,(0,((0,(0,(0,false))),((0,(0,(0,false))),((0,0),(0,(0,0))))))),(0,(0,((0,(0,(0,false))),((0,(0,(0,false))),((0,0),(0,(0,0)))))))],[(0,(0,((0,(0,(0,false))),((0,(0,(0,false))),((0,0),(0,(0,0))))))),(0,(0,((0,(0,(0,false))),((0,(0,(0,false))),((0,0),(0,(0,0))))))),(0,(0,((0,(0,(0,false))),((0,(0,(0,false))),((0,0),(0,(0,0))))))),(0,(0,((0,(0,(0,false))),((0,(0,(0,false))),((0,0),(0,(0,0))))))),(0,(0,((0,(0,(0,false))),((0,(0,(0,false))),((0,0),(0,(0,0))))))),(0,(0,((0,(0,(0,false))),((0,(0,(0,false))),((0,0),(0,(0,0)))))))])),(0,(1,((5,(1,(0,false))),((5,(1,(0,false))),((0,0),(0,(0,0))))))))))),([],(0,((0,(0,[])),(([],([],[])),(0,(0,((0,(0,(0,false))),((0,(0,(0,false))),((0,0),(0,(0,0))))))))))),([],(0,((0,(0,[])),(([],([],[])),(0,(0,((0,(0,(0,false))),((0,(0,(0,false))),((0,0),(0,(0,0)))))))))))]))),0):=by kernel_rfl
theorem lvl33_lives_3 (n:Nat):stat_Of (n+39) ((20,((10,(20,60)),((4,(5,6)),(3,9)))),(0,((-1),[([([97],[])],(5,((0,(0,[(5,(1,(0,false)))])),(([(0,(0,((0,(0,(0,false))),((0,(0,(0,false))),((0,0),(0,(0,0))))))),(0,(0,((0,(0,(0,false))),((0,(0,(0,false))),((0,0),(0,(0,0))))))),(0,(0,((0,(0,(0,false))),((0,(0,(0,false))),((0,0),(0,(0,0))))))),(0,(0,((0,(0,(0,false))),((0,(0,(0,false))),((0,0),(0,(0,0)))))))],([(0,(0,((0,(0,(0,false))),((0,(0,(0,false))),((0,0),(0,(0,0))))))),(0,(0,((0,(0,(0,false))),((0,(0,(0,false))),((0,0),(0,(0,0))))))),(0,(0,((0,(0,(0,false))),((0,(0,(0,false))),((0,0),(0,(0,0))))))),(0,(0,((0,(0,(0,false))),((0,(0,(0,false))),((0,0),(0,(0,0))))))),(0,(0,((0,(0,(0,false))),((0,(0,(0,false))),((0,0),(0,(0,0)))))))],[(0,(0,((0,(0,(0,false))),((0,(0,(0,false))),((0,0),(0,(0,0))))))),(0,(0,((0,(0,(0,false))),((0,(0,(0,false))),((0,0),(0,(0,0))))))),(0,(0,((0,(0,(0,false))),((0,(0,(0,false))),((0,0),(0,(0,0))))))),(0,(0,((0,(0,(0,false))),((0,(0,(0,false))),((0,0),(0,(0,0))))))),(0,(0,((0,(0,(0,false))),((0,(0,(0,false))),((0,0),(0,(0,0))))))),(0,(0,((0,(0,(0,false))),((0,(0,(0,false))),((0,0),(0,(0,0)))))))])),(0,(1,((5,(1,(0,false))),((5,(1,(0,false))),((0,0),(0,(0,0))))))))))),([],(0,((0,(0,[])),(([],([],[])),(0,(0,((0,(0,(0,false))),((0,(0,(0,false))),((0,0),(0,(0,0))))))))))),([],(0,((0,(0,[])),(([],([],[])),(0,(0,((0,(0,(0,false))),((0,(0,(0,false))),((0,0),(0,(0,0)))))))))))])))=some ((1,(0,(2,(1,(0,((0,(0,0)),0)))))),0):=by kernel_rfl
theorem lvl33_lives_4 (n:Nat):stat_Of (n+39) ((0,((0,(0,0)),((0,(0,0)),(0,0)))),(0,(0,[])))=some ((0,(0,(0,(0,(0,((0,(0,0)),0)))))),2):=by kernel_rfl
theorem lvl33_lives_5 (n:Nat):stat_Text (n+39) (1,(0,(0,(0,((-2),((4,(5,6)),7))))))=some [108,105,118,101,32,49,44,32,100,101,97,100,32,48,44,32,101,109,112,116,121,32,48,44,32,101,118,101,110,116,115,32,48,44,32,108,111,115,116,32,45,50,44,32,115,108,111,116,115,32,52,32,53,32,54,44,32,100,117,101,32,55]:=by kernel_rfl
theorem lvl33_lives_6 (n:Nat):stat_Full (n+39) ((20,((10,(20,60)),((4,(5,6)),(3,9)))),(0,((-1),[([([97],[])],(5,((0,(0,[(5,(1,(0,false)))])),(([(0,(0,((0,(0,(0,false))),((0,(0,(0,false))),((0,0),(0,(0,0))))))),(0,(0,((0,(0,(0,false))),((0,(0,(0,false))),((0,0),(0,(0,0))))))),(0,(0,((0,(0,(0,false))),((0,(0,(0,false))),((0,0),(0,(0,0))))))),(0,(0,((0,(0,(0,false))),((0,(0,(0,false))),((0,0),(0,(0,0)))))))],([(0,(0,((0,(0,(0,false))),((0,(0,(0,false))),((0,0),(0,(0,0))))))),(0,(0,((0,(0,(0,false))),((0,(0,(0,false))),((0,0),(0,(0,0))))))),(0,(0,((0,(0,(0,false))),((0,(0,(0,false))),((0,0),(0,(0,0))))))),(0,(0,((0,(0,(0,false))),((0,(0,(0,false))),((0,0),(0,(0,0))))))),(0,(0,((0,(0,(0,false))),((0,(0,(0,false))),((0,0),(0,(0,0)))))))],[(0,(0,((0,(0,(0,false))),((0,(0,(0,false))),((0,0),(0,(0,0))))))),(0,(0,((0,(0,(0,false))),((0,(0,(0,false))),((0,0),(0,(0,0))))))),(0,(0,((0,(0,(0,false))),((0,(0,(0,false))),((0,0),(0,(0,0))))))),(0,(0,((0,(0,(0,false))),((0,(0,(0,false))),((0,0),(0,(0,0))))))),(0,(0,((0,(0,(0,false))),((0,(0,(0,false))),((0,0),(0,(0,0))))))),(0,(0,((0,(0,(0,false))),((0,(0,(0,false))),((0,0),(0,(0,0)))))))])),(0,(1,((5,(1,(0,false))),((5,(1,(0,false))),((0,0),(0,(0,0))))))))))),([],(0,((0,(0,[])),(([],([],[])),(0,(0,((0,(0,(0,false))),((0,(0,(0,false))),((0,0),(0,(0,0))))))))))),([],(0,((0,(0,[])),(([],([],[])),(0,(0,((0,(0,(0,false))),((0,(0,(0,false))),((0,0),(0,(0,0)))))))))))])))=some false:=by kernel_rfl
theorem l33_lives_true (n:Nat):l33_lives (n+40)=some true:=by
  rw[lvl33_lives_eq]
  refine ob (lvl33_lives_0 n) ?_
  refine ob (lvl33_lives_1 n) ?_
  refine tf (by kernel_rfl) ?_
  refine ob (lvl33_lives_2 n) ?_
  refine ob (lvl33_lives_3 n) ?_
  refine ob (lvl33_lives_4 n) ?_
  refine tt (by kernel_rfl) ?_
  refine tt (by kernel_rfl) ?_
  refine tt (by kernel_rfl) ?_
  refine tt (by kernel_rfl) ?_
  refine ob (lvl33_lives_5 n) ?_
  refine tt (by kernel_rfl) ?_
  refine ob (lvl33_lives_6 n) ?_
  kernel_rfl
end Go.Proofs.YtjeabebacegikaaGreatDoor
namespace Go.Proofs.YtjeabebacegikaaGreatDoor
open Go.Flat Go.Plim
set_option linter.unusedVariables false
set_option linter.unusedSimpArgs false
noncomputable def fullV (s:Sta):Bool:=if StaOk s then decide ((roomR s).2=7) else false
theorem stat_full (n:Nat) {s:Sta} (hw:StaW s):stat_Full (n+15) s=some (fullV s):=by
  rw[stat_Full_eq,stt_room (n+4) hw,obs,stt_check n hw,obs]
  unfold fullV
  by_cases h:StaOk s
  · rw[chk_ok h,if_pos h]
  · rw[chk_no h,if_neg h]
theorem full_iff {s:Sta} (h:StaOk s):fullV s=decide (nLive s=s.2.2.2.length):=by
  unfold fullV roomR
  rw[if_pos h,if_pos h.whole]
  have e:(roomV s=none)↔nLive s=s.2.2.2.length:=by
    rw[roomV_none]
    unfold nLive
    rw[List.countP_eq_length]
    simp
  cases hr:roomV s with
  | none=>rw[decide_eq_true (e.1 hr)];rfl
  | some i=>rw[decide_eq_false (p:=nLive s=s.2.2.2.length) (fun k=>by rw[e.2 k] at hr;cases hr)];rfl
theorem cnt_at {s:Sta} (h:s.2.2.2.length≤65536):(cntV s).1=((nLive s:Nat):Int)∧(cntV s).2.1=((nDead s:Nat):Int)∧(cntV s).2.2.1=((nEmpty s:Nat):Int):=by
  obtain ⟨h1,h2,h3⟩:=cnt_num s s.2.2.2 cnt0 ⟨Int.le_refl _,Int.le_refl _,Int.le_refl _⟩ (by show (0:Int)+_≤_;omega) (by show (0:Int)+_≤_;omega) (by show (0:Int)+_≤_;omega)
  unfold cntV nLive nDead nEmpty
  rw[h1,h2,h3]
  simp[cnt0]
theorem statAll_true (n:Nat) (s:Sta) (hs:Wf tyState s):l33_StatAll (n+41) s=some true:=by
  have hw:=sta_wf hs
  rw[l33_StatAll_eq,l33_lives_true n,obs,Bool.not_true,tff]
  rcases l17_small (n+37) hw with h | ⟨h,_⟩
  · rw[h];rfl
  rw[h,obs,show (decide ((1:Int)=0))=false from rfl,tff,stt_check (n+26) hw,obs,tfn]
  by_cases hok:StaOk s
  case neg=>rw[chk_no hok]
  have h1:=swept_ok hok
  have h2:=clean_ok h1
  have hw1:StaW (sweptS s):=by have:=doV_w hw;rwa [show doV s=(sweptS s,(((dueV s).length:Int),0)) from if_pos hok] at this
  have hw2:StaW (cleanS (sweptS s)):=cleanS_w hw1
  rw[chk_ok hok,stat_of (n+21) hw,obs,sweep_do (n+24) hw,obs,show doV s=(sweptS s,(((dueV s).length:Int),0)) from if_pos hok]
  simp only
  rw[stat_of (n+21) hw1,obs,sweep_clean (n+25) hw1,obs,show cleanV (sweptS s)=(cleanS (sweptS s),0) from if_pos h1]
  simp only
  rw[stat_of (n+21) hw2,obs]
  unfold statV
  rw[if_pos hok,if_pos h1,if_pos h2]
  simp only[decide_true,Bool.not_true,tff]
  have hlen:=hok.whole.len
  have hlen2:(cleanS (sweptS s)).2.2.2.length≤65536:=h2.whole.len
  obtain ⟨a1,a2,a3⟩:=cnt_at hlen
  obtain ⟨b1,b2,b3⟩:=cnt_at (s:=sweptS s) hlen
  obtain ⟨c1,c2,c3⟩:=cnt_at hlen2
  have hd:(dueV s).length=nDue s:=dueV_len hok
  have hall:=n_all s
  have hall1:=n_all (sweptS s)
  have hsw:=n_swept hok
  have hdu:=n_swept_due hok
  obtain ⟨hc1,hc2⟩:=n_clean h1
  have hemp:=n_swept_empty s
  have hle:nLive s≤s.2.2.2.length:=by omega
  have hl1:(sweptS s).2.2.2.length=s.2.2.2.length:=rfl
  have hcap:(s.2.2.2.length:Int)=s.1.2.2.2.1:=hok.whole.2
  have hev:(cntV (cleanS (sweptS s))).2.2.2.1=(cntV (sweptS s)).2.2.2.1:=by
    unfold cntV
    rw[cnt_ev,cnt_ev]
    exact ev_clean h1
  show tif (decide (IntKind.wrap .i64 (IntKind.wrap .i64 ((cntV s).1+(cntV s).2.1)+(cntV s).2.2.1)=s.1.2.2.2.1)) (tif (decide (((nDue s:Nat):Int)=((dueV s).length:Int)))
    (tif (decide ((cntV (sweptS s)).1=IntKind.wrap .i64 ((cntV s).1-((dueV s).length:Int)))) (tif (decide ((cntV (sweptS s)).2.1=IntKind.wrap .i64 ((cntV s).2.1+((dueV s).length:Int))))
      (tif (decide (((nDue (sweptS s):Nat):Int)=0)) (tif (decide ((cntV (cleanS (sweptS s))).2.1=0)) (tif (decide ((cntV (cleanS (sweptS s))).1=(cntV (sweptS s)).1))
        (tif (decide ((cntV (cleanS (sweptS s))).2.2.2.1=(cntV (sweptS s)).2.2.2.1)) (obind (stat_Full (n+40) s) fun r8=>some (r8==decide ((cntV s).1=s.1.2.2.2.1)))
          (some false)) (some false)) (some false)) (some false)) (some false)) (some false)) (some false)) (some false)=_
  rw[hev,a1,a2,a3,b1,b2,c1,c2,hd,hdu,hc1,hc2]
  rw[w64 (x:=((nLive s:Nat):Int)+((nDead s:Nat):Int)) (by omega) (by omega),w64 (by omega) (by omega),w64 (by omega) (by omega),w64 (by omega) (by omega)]
  repeat rw[decide_eq_true (by omega),tft]
  rw[stat_full (n+25) hw,obs,full_iff hok]
  by_cases e:nLive s=s.2.2.2.length
  · rw[decide_eq_true e,decide_eq_true (by omega)];rfl
  · rw[decide_eq_false e,decide_eq_false (by omega)];rfl
end Go.Proofs.YtjeabebacegikaaGreatDoor
