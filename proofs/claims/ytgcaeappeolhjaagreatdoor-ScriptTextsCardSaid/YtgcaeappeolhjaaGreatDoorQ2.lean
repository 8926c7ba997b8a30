/-
  Plain proofs about the functions of this seat, part 2 of 2.
-/
import Derived.Test.YtgcaeappeolhjaaGreatDoorQ1
import Derived.Test.YtgcaeappeolhjaaGreatDoorFlatM3
import Derived.Test.YtgcaeappeolhjaaGreatDoorTr
namespace Go.Proofs.YtgcaeappeolhjaaGreatDoor
open Go.Flat Go.Plim
set_option linter.unusedVariables false
set_option linter.unusedSimpArgs false
theorem same5_l (n:Nat) (a b:List Lab) (hL:a.length≤9223372036854775807):∀(ra rb pa pb:List Lab) (f:Nat) (ix len:Int),a=pa++ra→b=pb++rb→pa.length=pb.length→ra.length=rb.length→ix=pa.length→len=a.length→ra.length<f →
    r05_Same_l4 n f (a,b,len,ix,())=some (if ra=rb then .inl () else .inr false):=by
  intro ra
  induction ra with
  | nil =>
    intro rb pa pb f ix len ha hb hp hr hi hn hf
    obtain ⟨f,rfl⟩:∃g,f=g+1:=⟨f-1,by simp at hf;omega⟩
    have e:rb=[]:=List.length_eq_zero_iff.1 (by simpa using hr.symm)
    subst e
    rw[r05_Same_l4_eq,decide_eq_false (idxe ha hi hn),tff,if_pos rfl]
  | cons x ra ih =>
    intro rb pa pb f ix len ha hb hp hr hi hn hf
    obtain ⟨f,rfl⟩:∃g,f=g+1:=⟨f-1,by simp at hf;omega⟩
    cases rb with
    | nil=>simp at hr
    | cons y rb =>
      have hlen:=congrArg List.length ha
      simp at hlen
      rw[r05_Same_l4_eq,decide_eq_true (idx ha hi hn),tft,at_mid ha hi,at_mid hb (by omega)]
      simp only[obs,labEq]
      rw[w64 (x:=ix+1) (by omega) (by omega)]
      by_cases h:x=y
      · subst h
        simp only[decide_true,Bool.not_true,tff]
        rw[ih rb (pa++[x]) (pb++[x]) f (ix+1) len (idxl ha) (idxl hb) (by simp;omega) (by simpa using hr) (idxs hi) hn (by simp at hf;omega)]
        simp
      · rw[if_neg (by simp[h])]
        simp only[decide_eq_false h,Bool.not_false,tft]
theorem same5 (n:Nat) (a b:List Lab) (hL:a.length≤9223372036854775807):r05_Same (n+1) a b=some (decide (a=b)):=by
  rw[r05_Same_eq]
  by_cases h:a.length=b.length
  · rw[decide_eq_true (show ((a.length:Nat):Int)=(b.length:Nat) by omega)]
    simp only[Bool.not_true,tff]
    rw[same5_l n a b hL a b [] [] loopFuel 0 _ rfl rfl rfl h rfl rfl (by unfold loopFuel;omega)]
    by_cases h':a=b
    · rw[if_pos h',decide_eq_true h'];rfl
    · rw[if_neg h',decide_eq_false h'];rfl
  · rw[decide_eq_false (show ¬((a.length:Nat):Int)=(b.length:Nat) by omega),decide_eq_false (fun k:a=b=>h (by rw[k]))]
    rfl
theorem sameS_l (n:Nat) (a b:List Lab) (hL:a.length≤9223372036854775807):∀(ra rb pa pb:List Lab) (f:Nat) (ix len:Int),a=pa++ra→b=pb++rb→pa.length=pb.length→ra.length=rb.length→ix=pa.length→len=a.length→ra.length<f →
    sl_Equal_Label_l4 n f (a,b,len,ix,())=some (if ra=rb then .inl () else .inr false):=by
  intro ra
  induction ra with
  | nil =>
    intro rb pa pb f ix len ha hb hp hr hi hn hf
    obtain ⟨f,rfl⟩:∃g,f=g+1:=⟨f-1,by simp at hf;omega⟩
    have e:rb=[]:=List.length_eq_zero_iff.1 (by simpa using hr.symm)
    subst e
    rw[sl_Equal_Label_l4_eq,decide_eq_false (idxe ha hi hn),tff,if_pos rfl]
  | cons x ra ih =>
    intro rb pa pb f ix len ha hb hp hr hi hn hf
    obtain ⟨f,rfl⟩:∃g,f=g+1:=⟨f-1,by simp at hf;omega⟩
    cases rb with
    | nil=>simp at hr
    | cons y rb =>
      have hlen:=congrArg List.length ha
      simp at hlen
      rw[sl_Equal_Label_l4_eq,decide_eq_true (idx ha hi hn),tft,at_mid ha hi,at_mid hb (by omega)]
      simp only[obs,labEq]
      rw[w64 (x:=ix+1) (by omega) (by omega)]
      by_cases h:x=y
      · subst h
        simp only[decide_true,Bool.not_true,tff]
        rw[ih rb (pa++[x]) (pb++[x]) f (ix+1) len (idxl ha) (idxl hb) (by simp;omega) (by simpa using hr) (idxs hi) hn (by simp at hf;omega)]
        simp
      · rw[if_neg (by simp[h])]
        simp only[decide_eq_false h,Bool.not_false,tft]
theorem sameS (n:Nat) (a b:List Lab) (hL:a.length≤9223372036854775807):sl_Equal_Label (n+1) a b=some (decide (a=b)):=by
  rw[sl_Equal_Label_eq]
  by_cases h:a.length=b.length
  · rw[decide_eq_true (show ((a.length:Nat):Int)=(b.length:Nat) by omega)]
    simp only[Bool.not_true,tff]
    rw[sameS_l n a b hL a b [] [] loopFuel 0 _ rfl rfl rfl h rfl rfl (by unfold loopFuel;omega)]
    by_cases h':a=b
    · rw[if_pos h',decide_eq_true h'];rfl
    · rw[if_neg h',decide_eq_false h'];rfl
  · rw[decide_eq_false (show ¬((a.length:Nat):Int)=(b.length:Nat) by omega),decide_eq_false (fun k:a=b=>h (by rw[k]))]
    rfl
abbrev ActT:=Int×(List Lab×(Ev×(Int×(Int×(Int×Int)))))
theorem actEq (a b:ActT):(decide (a.1=b.1)&&(decide (a.2.1=b.2.1)&&(decide (a.2.2.1=b.2.2.1)&&(decide (a.2.2.2.1=b.2.2.2.1)&&(decide (a.2.2.2.2.1=b.2.2.2.2.1)&&(decide (a.2.2.2.2.2.1=b.2.2.2.2.2.1)&&decide (a.2.2.2.2.2.2=b.2.2.2.2.2.2)))))))=decide (a=b):=by
  rw[Bool.eq_iff_iff]
  simp only[Bool.and_eq_true,decide_eq_true_eq,Prod.ext_iff]
theorem script_same (n:Nat) (a b:ActT) (h:a.2.1.length≤1000000):script_Same (n+3) a b=some (decide (a=b)):=by
  rw[script_Same_eq,label_Same_eq,sameS n _ _ (by omega),obs,obs,evEq,←actEq]
  simp only[tif_ite,decide_eq_true_eq]
  by_cases h1:a.1=b.1
  · rw[if_pos h1,decide_eq_true h1]
    by_cases h2:a.2.1=b.2.1
    · rw[if_pos h2,decide_eq_true h2]
      by_cases h3:a.2.2.1=b.2.2.1
      · rw[if_pos h3,decide_eq_true h3]
        by_cases h4:a.2.2.2.1=b.2.2.2.1
        · rw[if_pos h4,decide_eq_true h4]
          by_cases h5:a.2.2.2.2.1=b.2.2.2.2.1
          · rw[if_pos h5,decide_eq_true h5]
            by_cases h6:a.2.2.2.2.2.1=b.2.2.2.2.2.1
            · rw[if_pos h6,decide_eq_true h6];rfl
            · rw[if_neg h6,decide_eq_false h6];rfl
          · rw[if_neg h5,decide_eq_false h5];rfl
        · rw[if_neg h4,decide_eq_false h4];rfl
      · rw[if_neg h3,decide_eq_false h3];rfl
    · rw[if_neg h2,decide_eq_false h2];rfl
  · rw[if_neg h1,decide_eq_false h1];rfl
theorem r29_same (n:Nat) (a b:ActT) (h:a.2.1.length≤1000000):r29_Same (n+2) a b=some (decide (a=b)):=by
  rw[r29_Same_eq,same5 n _ _ (by omega),obs,evEq,←actEq]
  simp only[tif_ite,decide_eq_true_eq]
  by_cases h1:a.1=b.1
  · rw[if_pos h1,decide_eq_true h1]
    by_cases h2:a.2.1=b.2.1
    · rw[if_pos h2,decide_eq_true h2]
      by_cases h3:a.2.2.1=b.2.2.1
      · rw[if_pos h3,decide_eq_true h3]
        by_cases h4:a.2.2.2.1=b.2.2.2.1
        · rw[if_pos h4,decide_eq_true h4]
          by_cases h5:a.2.2.2.2.1=b.2.2.2.2.1
          · rw[if_pos h5,decide_eq_true h5]
            by_cases h6:a.2.2.2.2.2.1=b.2.2.2.2.2.1
            · rw[if_pos h6,decide_eq_true h6];rfl
            · rw[if_neg h6,decide_eq_false h6];rfl
          · rw[if_neg h5,decide_eq_false h5];rfl
        · rw[if_neg h4,decide_eq_false h4];rfl
      · rw[if_neg h3,decide_eq_false h3];rfl
    · rw[if_neg h2,decide_eq_false h2];rfl
  · rw[if_neg h1,decide_eq_false h1];rfl
def wordW (B s:List UInt8):List UInt8:=if B=[] then s else B++32::s
theorem wordW_len (B s:List UInt8):(wordW B s).length≤B.length+s.length+1:=by
  unfold wordW
  split
  · omega
  · simp;omega
theorem word_val (n:Nat) (B s:List UInt8) (x:Bool×ActT) (hB:B.length≤1000000) (hs:s.length≤1000000):script_writer_word (n+1) (bytesI B,x) s=some (bytesI (wordW B s),x):=by
  rw[script_writer_word_eq]
  have hb:(bytesI B).length=B.length:=bytesI_length B
  have hs':(List.map (fun y1=>(((UInt8.toNat y1):Nat):Int)) s)=bytesI s:=rfl
  have hbs:(bytesI s).length=s.length:=bytesI_length s
  simp only[tfd]
  rw[hs']
  unfold wordW
  by_cases h:B=[]
  · subst h
    rw[if_neg (by simp[bytesI]),if_pos (by rw[hbs];simp[bytesI];omega),if_pos rfl]
    simp[bytesI]
  · have hl:0<B.length:=List.length_pos_iff.2 h
    rw[if_pos (by rw[hb];omega),if_pos (by rw[hb];omega),if_pos (by rw[List.length_append,hb,hbs];simp;omega),if_neg h]
    simp[bytesI]
def nt (i:Int):List UInt8:=toB (itoI i)
theorem nt_len {i:Int} (h:I64 i):(nt i).length≤21:=by
  have:=itoI_len h.1 h.2
  unfold nt
  rw[toB_length];exact this
def numsW (B:List UInt8) (l:List Int):List UInt8:=l.foldl (fun B i=>wordW B (nt i)) B
theorem numsW_cons (B:List UInt8) (i:Int) (l:List Int):numsW B (i::l)=numsW (wordW B (nt i)) l:=rfl
theorem nums_l (n:Nat) (x:ActT) (l:List Int) (hl:l.length≤10) (hw:∀i∈l,I64 i):∀(rest pre:List Int) (f:Nat) (B:List UInt8) (bad:Bool) (j:Int),l=pre++rest→j=pre.length→B.length+22*rest.length≤500000 →
    script_writer_nums_l1 (n+5) (f+rest.length+1) ((bytesI B,bad,x),l,(l.length:Int),j,())=some (.inl ((bytesI (numsW B rest),bad||rest.any (fun i=>decide (i<0)),x),())):=by
  intro rest
  induction rest with
  | nil =>
    intro pre f B bad j h hj hB
    rw[script_writer_nums_l1_eq]
    simp only[tfd,if_neg (idxe h hj rfl)]
    simp[numsW]
  | cons i rest ih =>
    intro pre f B bad j h hj hB
    have hlen:=congrArg List.length h
    simp at hlen hB
    have hi:=hw i (by rw[h];simp)
    have hnl:=nt_len hi
    rw[show f+(i::rest).length+1=(f+rest.length+1)+1 by simp;omega,script_writer_nums_l1_eq]
    simp only[tfd,if_pos (idx h hj rfl)]
    rw[at_mid h hj,obs,idxw h hj (by omega),numsW_cons]
    have e:(List.map (fun y2=>(UInt8.ofNat (Int.toNat y2))) ([]++itoI i))=nt i:=rfl
    have hwl:=wordW_len B (nt i)
    cases bad with
    | true =>
      simp only[tft]
      rw[appendInt_val n hi.1 hi.2 [] (by simp),obs,e,word_val (n+4) B (nt i) (true,x) (by omega) (by omega),obs,ih (pre++[i]) f _ true (j+1) (idxl h) (idxs hj) (by omega)]
      simp
    | false =>
      simp only[tff]
      rw[appendInt_val n hi.1 hi.2 [] (by simp),obs,e,word_val (n+4) B (nt i) (decide (i<0),x) (by omega) (by omega),obs,ih (pre++[i]) f _ (decide (i<0)) (j+1) (idxl h) (idxs hj) (by omega)]
      simp
theorem nums_val (n:Nat) (x:ActT) (l:List Int) (hl:l.length≤10) (hw:∀i∈l,I64 i) (B:List UInt8) (bad:Bool) (hB:B.length≤400000) :
    script_writer_nums (n+6) (bytesI B,bad,x) l=some (bytesI (numsW B l),bad||l.any (fun i=>decide (i<0)),x):=by
  rw[script_writer_nums_eq]
  have:=nums_l n x l hl hw l [] (loopFuel-l.length-1) B bad 0 rfl rfl (by omega)
  rw[←lfu (by omega)] at this
  rw[this,obs,selim_inl]
structure ActW (a:ActT):Prop where
  l:a.2.1.length≤1000000
  e:EvW a.2.2.1
  t:I64 a.2.2.2.1
  fa:I64 a.2.2.2.2.1
  fb:I64 a.2.2.2.2.2.1
  fn:I64 a.2.2.2.2.2.2
def told (a:ActT):ActT :=
  if a.1=1 then (1,a.2.1,(if a.2.2.1.2.2.2=true then (a.2.2.1.1,0,0,true) else a.2.2.1),0,0,0,0)
  else if a.1=5 then (5,a.2.1,e0,a.2.2.2.1,a.2.2.2.2.1,a.2.2.2.2.2.1,0)
  else if a.1=6 then (6,[],e0,a.2.2.2.1,a.2.2.2.2.1,a.2.2.2.2.2.1,0)
  else if a.1=2∨a.1=8∨a.1=9 then (a.1,[],e0,0,0,0,a.2.2.2.2.2.2)
  else (a.1,[],e0,0,0,0,0)
def wTick:List UInt8:=[116,105,99,107]
def wArm:List UInt8:=[97,114,109]
def wLoad:List UInt8:=[108,111,97,100]
def wSweep:List UInt8:=[115,119,101,101,112]
def wFlush:List UInt8:=[102,108,117,115,104]
def wDump:List UInt8:=[100,117,109,112]
def wWrite:List UInt8:=[119,114,105,116,101]
def wStale:List UInt8:=[115,116,97,108,101]
def wAsk:List UInt8:=[97,115,107]
def wTotal:List UInt8:=[116,111,116,97,108]
def okK (a:ActT):Prop :=
  if a.1=1 then (0≤a.2.2.1.1∧(a.2.2.1.2.2.2=true∨0≤a.2.2.1.2.2.1))∧LabOk a.2.1
  else if a.1=5 then (0≤a.2.2.2.1∧0≤a.2.2.2.2.1∧0≤a.2.2.2.2.2.1)∧LabOk a.2.1
  else if a.1=6 then 0≤a.2.2.2.1∧0≤a.2.2.2.2.1∧0≤a.2.2.2.2.2.1
  else if a.1=2∨a.1=8∨a.1=9 then 0≤a.2.2.2.2.2.2
  else a.1=3∨a.1=4∨a.1=7
def txtA (a:ActT):List UInt8 :=
  if a.1=1 then (if a.2.2.1.2.2.2=true then wStale++32::nt a.2.2.1.1 else wWrite++32::(toB (decI a.2.2.1.2.1.toNat)++32::(nt a.2.2.1.1++32::nt a.2.2.1.2.2.1)))++32::textL a.2.1
  else if a.1=5 then wAsk++32::(nt a.2.2.2.1++32::(nt a.2.2.2.2.1++32::(nt a.2.2.2.2.2.1++32::textL a.2.1)))
  else if a.1=6 then wTotal++32::(nt a.2.2.2.1++32::(nt a.2.2.2.2.1++32::nt a.2.2.2.2.2.1))
  else if a.1=2 then wTick++32::nt a.2.2.2.2.2.2
  else if a.1=8 then wArm++32::nt a.2.2.2.2.2.2
  else if a.1=9 then wLoad++32::nt a.2.2.2.2.2.2
  else if a.1=3 then wSweep
  else if a.1=4 then wFlush
  else if a.1=7 then wDump
  else []
def good (a:ActT):Prop:=okK a∧told a=a∧(txtA a).length≤4096
noncomputable instance (a:ActT):Decidable (good a):=Classical.propDecidable _
theorem appendU_val (n:Nat) {v:Int} (h0:0≤v) (h1:v≤18446744073709551615):strconv_AppendUint (n+4) [] v 10=some (decI v.toNat):=by
  have e:v=((v.toNat:Nat):Int):=by omega
  have:=appendUint_val n (u:=v.toNat) (by omega) [] (by simp)
  rw[←e] at this
  rw[strconv_AppendUint_eq,this,obs]
  simp
theorem dec_len {v:Int} (h0:0≤v) (h1:v≤18446744073709551615):(toB (decI v.toNat)).length≤20:=by
  unfold decI
  rw[toB_length,dgs_len]
  exact ndg_le (by omega)
noncomputable def labW (B:List UInt8) (l:List Lab):List UInt8:=wordW B (if LabOk l then textL l else [])
theorem labels_val (n:Nat) (B:List UInt8) (bad:Bool) (k:Int) (ls l:List Lab) (r:Ev×(Int×(Int×(Int×Int)))) (hB:B.length≤500000) :
    script_writer_labels (n+8) (bytesI B,bad,k,ls,r) l=some (bytesI (labW B l),bad || !(decide (LabOk l)),k,l,r):=by
  rw[script_writer_labels_eq,label_text n l,obs]
  unfold labW
  have hl:(if LabOk l then textL l else []).length≤10000:=by
    split
    · rename_i h;exact textL_len h
    · simp
  have e1:(if LabOk l then (textL l,(0:Int)) else ([],8)).1=if LabOk l then textL l else []:=by split<;>rfl
  have e2:decide ((if LabOk l then (textL l,(0:Int)) else ([],8)).2=0)=decide (LabOk l):=by
    by_cases h:LabOk l
    · rw[if_pos h,decide_eq_true h];rfl
    · rw[if_neg h,decide_eq_false h];rfl
  rw[e1,e2]
  cases bad with
  | true =>
    simp only[tft]
    rw[word_val (n+6) B _ (true,k,ls,r) (by omega) (by omega),obs]
    simp
  | false =>
    simp only[tff]
    rw[word_val (n+6) B _ (!decide (LabOk l),k,ls,r) (by omega) (by omega),obs]
    simp
theorem labW_len (B:List UInt8) (l:List Lab):(labW B l).length≤B.length+10001:=by
  unfold labW
  have hl:(if LabOk l then textL l else []).length≤10000:=by
    split
    · rename_i h;exact textL_len h
    · simp
  have:=wordW_len B (if LabOk l then textL l else [])
  omega
theorem numsW_len:∀(l:List Int) (B:List UInt8),(∀i∈l,I64 i)→(numsW B l).length≤B.length+22*l.length
  | [],B,_=>by simp[numsW]
  | i::l,B,h=>by
    rw[numsW_cons]
    have h1:=nt_len (h i List.mem_cons_self)
    have h2:=wordW_len B (nt i)
    have h3:=numsW_len l (wordW B (nt i)) fun j hj=>h j (List.mem_cons_of_mem _ hj)
    simp;omega
theorem wordW_ne {B:List UInt8} (h:B≠[]) (s:List UInt8):wordW B s=B++32::s:=if_neg h
theorem wordW_nil (s:List UInt8):wordW [] s=s:=if_pos rfl
theorem numsW_eq:∀(l:List Int) (B:List UInt8),B≠[]→numsW B l=B++l.flatMap (fun i=>32::nt i)
  | [],B,_=>by simp[numsW]
  | i::l,B,h=>by
    rw[numsW_cons,wordW_ne h,numsW_eq l _ (by simp)]
    simp
def z0A:ActT:=(0,[],e0,0,0,0,0)
def Wrote (a:ActT) (o:Option (List Int×(Bool×ActT))):Prop :=
  ∃B bad,o=some (bytesI B,bad,told a)∧B.length≤600000∧(bad=false↔okK a)∧(okK a→B=txtA a)
theorem act1 (n:Nat) (a:ActT) (hw:ActW a) (h:a.1=1):Wrote a (script_writer_act (n+9) ([],false,z0A) a):=by
  have het:=hw.e.t
  have hec:=hw.e.c
  rw[script_writer_act_eq]
  simp only[tfd,if_pos h]
  rw[script_writer_event_eq]
  have htold:told a=(1,a.2.1,(if a.2.2.1.2.2.2=true then (a.2.2.1.1,0,0,true) else a.2.2.1),0,0,0,0):=by unfold told;rw[if_pos h]
  have hok:okK a↔(0≤a.2.2.1.1∧(a.2.2.1.2.2.2=true∨0≤a.2.2.1.2.2.1))∧LabOk a.2.1:=by unfold okK;rw[if_pos h]
  have htx:txtA a=(if a.2.2.1.2.2.2=true then wStale++32::nt a.2.2.1.1 else wWrite++32::(toB (decI a.2.2.1.2.1.toNat)++32::(nt a.2.2.1.1++32::nt a.2.2.1.2.2.1)))++32::textL a.2.1:=by unfold txtA;rw[if_pos h]
  rw[tif_ite]
  by_cases hs:a.2.2.1.2.2.2=true
  · rw[if_pos hs]
    rw[if_pos hs] at htold htx
    have e1:=word_val (n+6) [] wStale (false,a.1,[],(a.2.2.1.1,0,0,true),0,0,0,0) (by simp) (by decide)
    rw[wordW_nil] at e1
    have e2:=nums_val (n+1) (a.1,[],(a.2.2.1.1,0,0,true),0,0,0,0) [a.2.2.1.1] (by simp) (fun i hi=>by simp at hi;rw[hi];exact het) wStale false (by decide)
    have hB:(numsW wStale [a.2.2.1.1]).length≤30:=by
      have:=numsW_len [a.2.2.1.1] wStale (fun i hi=>by simp at hi;rw[hi];exact het)
      have h5:wStale.length=5:=rfl
      simp at this;omega
    have e3:=labels_val n (numsW wStale [a.2.2.1.1]) (false||[a.2.2.1.1].any fun i=>decide (i<0)) a.1 [] a.2.1 ((a.2.2.1.1,0,0,true),0,0,0,0) (by omega)
    refine ⟨labW (numsW wStale [a.2.2.1.1]) a.2.1,(false||[a.2.2.1.1].any fun i=>decide (i<0)) || !(decide (LabOk a.2.1)),?_,?_,?_,?_⟩
    · show obind (obind (script_writer_word (n+7) (bytesI [],(false,a.1,[],(a.2.2.1.1,0,0,true),0,0,0,0)) wStale) fun r0=>obind (script_writer_nums (n+7) r0 [a.2.2.1.1]) fun r1=>some r1) (fun r0=>obind (script_writer_labels (n+8) r0 a.2.1) fun r1=>some r1)=_
      rw[e1,obs,e2,obs,obs,e3,obs,htold,h]
    · have:=labW_len (numsW wStale [a.2.2.1.1]) a.2.1
      omega
    · rw[hok]
      simp[hs]
    · intro k
      rw[hok] at k
      rw[htx]
      unfold labW
      rw[if_pos k.2,numsW_eq _ _ (by decide),wordW_ne (by simp[wStale])]
      simp
  · rw[if_neg hs]
    rw[if_neg hs] at htold htx
    have hV:=hw.e.v
    have hd:=dec_len hV.1 hV.2
    have e1:=word_val (n+6) [] wWrite (false,a.1,[],a.2.2.1,0,0,0,0) (by simp) (by decide)
    rw[wordW_nil] at e1
    have e1':=word_val (n+6) wWrite (toB (decI a.2.2.1.2.1.toNat)) (false,a.1,[],a.2.2.1,0,0,0,0) (by decide) (by omega)
    have hI:∀i∈[a.2.2.1.1,a.2.2.1.2.2.1],I64 i:=fun i hi=>by
      simp at hi
      rcases hi with rfl | rfl
      · exact het
      · exact hec
    have h5:wWrite.length=5:=rfl
    have hw1:=wordW_len wWrite (toB (decI a.2.2.1.2.1.toNat))
    have e2:=nums_val (n+1) (a.1,[],a.2.2.1,0,0,0,0) [a.2.2.1.1,a.2.2.1.2.2.1] (by simp) hI (wordW wWrite (toB (decI a.2.2.1.2.1.toNat))) false (by omega)
    have hB:(numsW (wordW wWrite (toB (decI a.2.2.1.2.1.toNat))) [a.2.2.1.1,a.2.2.1.2.2.1]).length≤90:=by
      have:=numsW_len [a.2.2.1.1,a.2.2.1.2.2.1] (wordW wWrite (toB (decI a.2.2.1.2.1.toNat))) hI
      simp at this;omega
    have e3:=labels_val n (numsW (wordW wWrite (toB (decI a.2.2.1.2.1.toNat))) [a.2.2.1.1,a.2.2.1.2.2.1]) (false||[a.2.2.1.1,a.2.2.1.2.2.1].any fun i=>decide (i<0)) a.1 [] a.2.1 (a.2.2.1,0,0,0,0) (by omega)
    refine ⟨labW (numsW (wordW wWrite (toB (decI a.2.2.1.2.1.toNat))) [a.2.2.1.1,a.2.2.1.2.2.1]) a.2.1,(false||[a.2.2.1.1,a.2.2.1.2.2.1].any fun i=>decide (i<0)) || !(decide (LabOk a.2.1)),?_,?_,?_,?_⟩
    · show obind (obind (script_writer_word (n+7) (bytesI [],(false,a.1,[],a.2.2.1,0,0,0,0)) wWrite) fun r2=>obind (strconv_AppendUint (n+7) [] a.2.2.1.2.1 10) fun r3=>obind (script_writer_word (n+7) r2 (toB r3)) fun r5=>obind (script_writer_nums (n+7) r5 [a.2.2.1.1,a.2.2.1.2.2.1]) fun r6=>some r6) (fun r0=>obind (script_writer_labels (n+8) r0 a.2.1) fun r1=>some r1)=_
      rw[e1,obs,appendU_val (n+3) hV.1 hV.2,obs,e1',obs,e2,obs,obs,e3,obs,htold,h]
    · have:=labW_len (numsW (wordW wWrite (toB (decI a.2.2.1.2.1.toNat))) [a.2.2.1.1,a.2.2.1.2.2.1]) a.2.1
      omega
    · rw[hok]
      simp[hs]
    · intro k
      rw[hok] at k
      rw[htx]
      unfold labW
      have ew:wordW wWrite (toB (decI a.2.2.1.2.1.toNat))=wWrite++32::toB (decI a.2.2.1.2.1.toNat):=wordW_ne (by decide) _
      rw[if_pos k.2,ew,numsW_eq _ _ (by simp),wordW_ne (by simp)]
      simp
theorem span_val (n:Nat) (a:ActT) (hw:ActW a) (B:List UInt8) (hB:B.length≤300000) (bad:Bool) (x:ActT) :
    script_writer_span (n+7) (bytesI B,bad,x) a=some (bytesI (numsW B [a.2.2.2.1,a.2.2.2.2.1,a.2.2.2.2.2.1]),bad||[a.2.2.2.1,a.2.2.2.2.1,a.2.2.2.2.2.1].any (fun i=>decide (i<0)),(x.1,x.2.1,x.2.2.1,a.2.2.2.1,a.2.2.2.2.1,a.2.2.2.2.2.1,x.2.2.2.2.2.2)):=by
  have hI:∀i∈[a.2.2.2.1,a.2.2.2.2.1,a.2.2.2.2.2.1],I64 i:=fun i hi=>by
    simp at hi
    rcases hi with rfl | rfl | rfl
    · exact hw.t
    · exact hw.fa
    · exact hw.fb
  rw[script_writer_span_eq,nums_val n x _ (by simp) hI B bad (by omega),obs]
theorem span_I {a:ActT} (hw:ActW a):∀i∈[a.2.2.2.1,a.2.2.2.2.1,a.2.2.2.2.2.1],I64 i:=fun i hi=>by
  simp at hi
  rcases hi with rfl | rfl | rfl
  · exact hw.t
  · exact hw.fa
  · exact hw.fb
theorem act5 (n:Nat) (a:ActT) (hw:ActW a) (h:a.1=5):Wrote a (script_writer_act (n+9) ([],false,z0A) a):=by
  rw[script_writer_act_eq]
  simp only[tfd,if_neg (show ¬a.1=1 by omega),if_pos h]
  have htold:told a=(5,a.2.1,e0,a.2.2.2.1,a.2.2.2.2.1,a.2.2.2.2.2.1,0):=by unfold told;rw[if_neg (by omega),if_pos h]
  have hok:okK a↔(0≤a.2.2.2.1∧0≤a.2.2.2.2.1∧0≤a.2.2.2.2.2.1)∧LabOk a.2.1:=by unfold okK;rw[if_neg (by omega),if_pos h]
  have htx:txtA a=wAsk++32::(nt a.2.2.2.1++32::(nt a.2.2.2.2.1++32::(nt a.2.2.2.2.2.1++32::textL a.2.1))):=by unfold txtA;rw[if_neg (by omega),if_pos h]
  have e1:=word_val (n+7) [] wAsk (false,a.1,[],e0,0,0,0,0) (by simp) (by decide)
  rw[wordW_nil] at e1
  have e2:=span_val (n+1) a hw wAsk (by decide) false (a.1,[],e0,0,0,0,0)
  have hB:(numsW wAsk [a.2.2.2.1,a.2.2.2.2.1,a.2.2.2.2.2.1]).length≤90:=by
    have:=numsW_len _ wAsk (span_I hw)
    have h3:wAsk.length=3:=rfl
    simp at this;omega
  have e3:=labels_val n (numsW wAsk [a.2.2.2.1,a.2.2.2.2.1,a.2.2.2.2.2.1]) (false||[a.2.2.2.1,a.2.2.2.2.1,a.2.2.2.2.2.1].any fun i=>decide (i<0)) a.1 [] a.2.1 (e0,a.2.2.2.1,a.2.2.2.2.1,a.2.2.2.2.2.1,0) (by omega)
  refine ⟨labW (numsW wAsk [a.2.2.2.1,a.2.2.2.2.1,a.2.2.2.2.2.1]) a.2.1,(false||[a.2.2.2.1,a.2.2.2.2.1,a.2.2.2.2.2.1].any fun i=>decide (i<0)) || !(decide (LabOk a.2.1)),?_,?_,?_,?_⟩
  · show obind (script_writer_word (n+8) (bytesI [],(false,a.1,[],e0,0,0,0,0)) wAsk) (fun r2=>obind (script_writer_span (n+8) r2 a) fun r3=>obind (script_writer_labels (n+8) r3 a.2.1) fun r4=>some r4)=_
    rw[e1,obs,e2,obs]
    dsimp only
    rw[e3,obs,htold,h]
  · have:=labW_len (numsW wAsk [a.2.2.2.1,a.2.2.2.2.1,a.2.2.2.2.2.1]) a.2.1
    omega
  · rw[hok]
    simp
  · intro k
    rw[hok] at k
    rw[htx]
    unfold labW
    rw[if_pos k.2,numsW_eq _ _ (by decide),wordW_ne (by simp[wAsk])]
    simp
theorem act6 (n:Nat) (a:ActT) (hw:ActW a) (h:a.1=6):Wrote a (script_writer_act (n+9) ([],false,z0A) a):=by
  rw[script_writer_act_eq]
  simp only[tfd,if_neg (show ¬a.1=1 by omega),if_neg (show ¬a.1=5 by omega),if_pos h]
  have htold:told a=(6,[],e0,a.2.2.2.1,a.2.2.2.2.1,a.2.2.2.2.2.1,0):=by unfold told;rw[if_neg (by omega),if_neg (by omega),if_pos h]
  have hok:okK a↔(0≤a.2.2.2.1∧0≤a.2.2.2.2.1∧0≤a.2.2.2.2.2.1):=by unfold okK;rw[if_neg (by omega),if_neg (by omega),if_pos h]
  have htx:txtA a=wTotal++32::(nt a.2.2.2.1++32::(nt a.2.2.2.2.1++32::nt a.2.2.2.2.2.1)):=by unfold txtA;rw[if_neg (by omega),if_neg (by omega),if_pos h]
  have e1:=word_val (n+7) [] wTotal (false,a.1,[],e0,0,0,0,0) (by simp) (by decide)
  rw[wordW_nil] at e1
  have e2:=span_val (n+1) a hw wTotal (by decide) false (a.1,[],e0,0,0,0,0)
  refine ⟨numsW wTotal [a.2.2.2.1,a.2.2.2.2.1,a.2.2.2.2.2.1],(false||[a.2.2.2.1,a.2.2.2.2.1,a.2.2.2.2.2.1].any fun i=>decide (i<0)),?_,?_,?_,?_⟩
  · show obind (script_writer_word (n+8) (bytesI [],(false,a.1,[],e0,0,0,0,0)) wTotal) (fun r2=>obind (script_writer_span (n+8) r2 a) fun r3=>some r3)=_
    rw[e1,obs,e2,obs,htold,h]
  · have:=numsW_len _ wTotal (span_I hw)
    have h3:wTotal.length=5:=rfl
    simp at this;omega
  · rw[hok]
    simp
  · intro k
    rw[htx,numsW_eq _ _ (by decide)]
    simp
theorem actN (n:Nat) (a:ActT) (hw:ActW a) (w:List UInt8) (hwn:w≠[]) (hwl:w.length≤10) (h:a.1=2∨a.1=8∨a.1=9) (hp:script_plain (n+8) a.1=some (w,true)) (htx:txtA a=w++32::nt a.2.2.2.2.2.2):Wrote a (script_writer_act (n+9) ([],false,z0A) a):=by
  rw[script_writer_act_eq]
  simp only[tfd,if_neg (show ¬a.1=1 by omega),if_neg (show ¬a.1=5 by omega),if_neg (show ¬a.1=6 by omega)]
  rw[hp,obs]
  have htold:told a=(a.1,[],e0,0,0,0,a.2.2.2.2.2.2):=by unfold told;rw[if_neg (by omega),if_neg (by omega),if_neg (by omega),if_pos h]
  have hok:okK a↔0≤a.2.2.2.2.2.2:=by unfold okK;rw[if_neg (by omega),if_neg (by omega),if_neg (by omega),if_pos h]
  have e1:=word_val (n+7) [] w (false,a.1,[],e0,0,0,0,0) (by simp) (by omega)
  rw[wordW_nil] at e1
  have hI:∀i∈[a.2.2.2.2.2.2],I64 i:=fun i hi=>by simp at hi;rw[hi];exact hw.fn
  have e2:=nums_val (n+2) (a.1,[],e0,0,0,0,0) [a.2.2.2.2.2.2] (by simp) hI w false (by omega)
  have hwe:(w==[])=false:=by
    cases w with
    | nil=>exact absurd rfl hwn
    | cons _ _=>rfl
  refine ⟨numsW w [a.2.2.2.2.2.2],(false||[a.2.2.2.2.2.2].any fun i=>decide (i<0)),?_,?_,?_,?_⟩
  · show obind (script_writer_word (n+8) (bytesI [],(false,a.1,[],e0,0,0,0,0)) w) _=_
    rw[e1,obs]
    simp only[tff,tft,hwe]
    show obind (script_writer_nums (n+8) (bytesI w,(false,a.1,[],e0,0,0,0,0)) [a.2.2.2.2.2.2]) _=_
    rw[e2,obs,htold]
  · have:=numsW_len [a.2.2.2.2.2.2] w hI
    simp at this;omega
  · rw[hok]
    simp
  · intro k
    rw[htx,numsW_cons,wordW_ne hwn]
    rfl
theorem act0 (n:Nat) (a:ActT) (w:List UInt8) (hwl:w.length≤10) (h:¬(a.1=1∨a.1=2∨a.1=5∨a.1=6∨a.1=8∨a.1=9)) (hp:script_plain (n+8) a.1=some (w,false)) (hk:(w==[])=false↔(a.1=3∨a.1=4∨a.1=7)) (htx:txtA a=w):Wrote a (script_writer_act (n+9) ([],false,z0A) a):=by
  rw[script_writer_act_eq]
  simp only[tfd,if_neg (show ¬a.1=1 by omega),if_neg (show ¬a.1=5 by omega),if_neg (show ¬a.1=6 by omega)]
  rw[hp,obs]
  have htold:told a=(a.1,[],e0,0,0,0,0):=by unfold told;rw[if_neg (by omega),if_neg (by omega),if_neg (by omega),if_neg (by omega)]
  have hok:okK a↔(a.1=3∨a.1=4∨a.1=7):=by unfold okK;rw[if_neg (by omega),if_neg (by omega),if_neg (by omega),if_neg (by omega)]
  have e1:=word_val (n+7) [] w (false,a.1,[],e0,0,0,0,0) (by simp) (by omega)
  rw[wordW_nil] at e1
  refine ⟨w,(w==[]),?_,by omega,?_,fun _=>htx.symm⟩
  · show obind (script_writer_word (n+8) (bytesI [],(false,a.1,[],e0,0,0,0,0)) w) _=_
    rw[e1,obs]
    simp only[tff]
    rw[htold]
  · rw[hok,hk]
theorem act_val (n:Nat) (a:ActT) (hw:ActW a):Wrote a (script_writer_act (n+9) ([],false,z0A) a):=by
  by_cases h1:a.1=1
  · exact act1 n a hw h1
  by_cases h5:a.1=5
  · exact act5 n a hw h5
  by_cases h6:a.1=6
  · exact act6 n a hw h6
  by_cases h2:a.1=2
  · exact actN n a hw wTick (by decide) (by decide) (.inl h2) (by rw[script_plain_eq];simp only[tfd,if_pos h2];rfl) (by unfold txtA;rw[if_neg h1,if_neg h5,if_neg h6,if_pos h2])
  by_cases h8:a.1=8
  · exact actN n a hw wArm (by decide) (by decide) (.inr (.inl h8)) (by rw[script_plain_eq];simp only[tfd,if_neg h2,if_pos h8];rfl) (by unfold txtA;rw[if_neg h1,if_neg h5,if_neg h6,if_neg h2,if_pos h8])
  by_cases h9:a.1=9
  · exact actN n a hw wLoad (by decide) (by decide) (.inr (.inr h9)) (by rw[script_plain_eq];simp only[tfd,if_neg h2,if_neg h8,if_pos h9];rfl) (by unfold txtA;rw[if_neg h1,if_neg h5,if_neg h6,if_neg h2,if_neg h8,if_pos h9])
  have hn:¬(a.1=1∨a.1=2∨a.1=5∨a.1=6∨a.1=8∨a.1=9):=by omega
  by_cases h3:a.1=3
  · exact act0 n a wSweep (by decide) hn (by rw[script_plain_eq];simp only[tfd,if_neg h2,if_neg h8,if_neg h9,if_pos h3];rfl) ⟨fun _ => .inl h3,fun _=>rfl⟩ (by unfold txtA;rw[if_neg h1,if_neg h5,if_neg h6,if_neg h2,if_neg h8,if_neg h9,if_pos h3])
  by_cases h4:a.1=4
  · exact act0 n a wFlush (by decide) hn (by rw[script_plain_eq];simp only[tfd,if_neg h2,if_neg h8,if_neg h9,if_neg h3,if_pos h4];rfl) ⟨fun _ => .inr (.inl h4),fun _=>rfl⟩ (by unfold txtA;rw[if_neg h1,if_neg h5,if_neg h6,if_neg h2,if_neg h8,if_neg h9,if_neg h3,if_pos h4])
  by_cases h7:a.1=7
  · exact act0 n a wDump (by decide) hn (by rw[script_plain_eq];simp only[tfd,if_neg h2,if_neg h8,if_neg h9,if_neg h3,if_neg h4,if_pos h7];rfl) ⟨fun _ => .inr (.inr h7),fun _=>rfl⟩ (by unfold txtA;rw[if_neg h1,if_neg h5,if_neg h6,if_neg h2,if_neg h8,if_neg h9,if_neg h3,if_neg h4,if_pos h7])
  · exact act0 n a [] (by decide) hn (by rw[script_plain_eq];simp only[tfd,if_neg h2,if_neg h8,if_neg h9,if_neg h3,if_neg h4,if_neg h7]) ⟨fun q=>(by cases q),fun q=>(by omega)⟩ (by unfold txtA;rw[if_neg h1,if_neg h5,if_neg h6,if_neg h2,if_neg h8,if_neg h9,if_neg h3,if_neg h4,if_neg h7])
theorem script_line (n:Nat) (a:ActT) (hw:ActW a):script_Line (n+10) a=some (if good a then (txtA a,0) else ([],2)):=by
  rw[script_Line_eq]
  obtain ⟨B,bad,h1,h2,h3,h4⟩:=act_val n a hw
  show obind (script_writer_act (n+9) ([],false,z0A) a) _=_
  rw[h1,obs]
  simp only[tif_ite,decide_eq_true_eq]
  cases hb:bad with
  | true =>
    rw[if_pos rfl,if_neg (fun g:good a=>by have:=h3.2 g.1;rw[hb] at this;cases this)]
  | false =>
    have hk:=h3.1 hb
    have hB:=h4 hk
    rw[if_neg (by simp),show (((bytesI B).length:Nat):Int)=((txtA a).length:Int) by rw[bytesI_length,hB]]
    by_cases hl:(4096:Int)<((txtA a).length:Int)
    · rw[if_pos hl,if_neg (fun g:good a=>by have:=g.2.2;omega)]
    rw[if_neg hl,script_same (n+6) a (told a) hw.l,obs]
    by_cases ht:a=told a
    · rw[decide_eq_true ht]
      have e:(List.map (fun y2=>(UInt8.ofNat (Int.toNat y2))) (bytesI B))=B:=toB_bytesI B
      rw[if_neg (by simp),if_pos (show good a from ⟨hk,ht.symm,by omega⟩),e,hB]
    · rw[decide_eq_false ht,if_pos (by simp),if_neg (fun g:good a=>ht g.2.1.symm)]
theorem num_nat (n:Nat) {u:Nat} (h:u<18446744073709551616):r29_num (n+25) (u:Int)=some (32::toB (decI u)):=by
  rw[r29_num_eq]
  have hp:(18446744073709551616:Nat)≤10^(19+1):=by decide
  have h1:=r01_text n 19 u (by omega) h (by omega)
  have e:((0:Int),(u:Int))=ofN u:=by
    unfold ofN
    rw[Nat.div_eq_of_lt h,Nat.mod_eq_of_lt h];rfl
  rw[e,show n+24=n+19+5 by omega,h1,obs]
  have hl:(toB (decI u)).length≤20:=by
    unfold decI
    rw[toB_length,dgs_len];exact ndg_le h
  rw[tfd,if_pos (by omega)]
  rfl
theorem nt_nn {x:Int} (h:0≤x):nt x=toB (decI x.toNat):=by
  unfold nt itoI
  rw[if_neg (by omega)]
theorem num_val (n:Nat) {x:Int} (hx:I64 x):∃s,r29_num (n+25) (IntKind.wrap .u64 x)=some s∧s.length≤30∧(0≤x→s=32::nt x):=by
  have e:IntKind.wrap .u64 x=(((IntKind.wrap .u64 x).toNat:Nat):Int):=by
    rw[IntKind.wrap_u64];omega
  have hlt:(IntKind.wrap .u64 x).toNat<18446744073709551616:=by rw[IntKind.wrap_u64];omega
  refine ⟨_,by rw[e];exact num_nat n hlt,?_,fun h0 => ?_⟩
  · have:(toB (decI (IntKind.wrap .u64 x).toNat)).length≤20:=by
      unfold decI
      rw[toB_length,dgs_len];exact ndg_le hlt
    simp;omega
  · rw[nt_nn h0,wu64 h0 (by have:=hx.2;omega)]
theorem lab05 (l:List Lab):(if LabOk l then (textL l,(0:Int)) else ([],8)).1.length≤10000:=by
  split
  · rename_i h;exact textL_len h
  · simp
theorem lab05z (l:List Lab):(!decide ((if LabOk l then (textL l,(0:Int)) else ([],8)).2=0)) = !decide (LabOk l):=by
  by_cases h:LabOk l
  · rw[if_pos h,decide_eq_true h];rfl
  · rw[if_neg h,decide_eq_false h];rfl
theorem r29_tail (n:Nat) (a b:ActT) (hw:ActW a) (hb:b=told a) (s:List UInt8) (h0:¬good a→told a=a→0≤a.2.2.2.1∧0≤a.2.2.2.2.1∧0≤a.2.2.2.2.2.1∧0≤a.2.2.2.2.2.2→4096<s.length) (h1:good a→s=txtA a∧0≤a.2.2.2.1∧0≤a.2.2.2.2.1∧0≤a.2.2.2.2.2.1∧0≤a.2.2.2.2.2.2) :
    (obind (r29_Same (n+2) a b) fun r5 =>
      tif ((!r5)) (some ([],(2:Int))) (
      tif ((decide (a.2.2.2.1<(0:Int)))) (some ([],(2:Int))) (
      tif ((decide (a.2.2.2.2.1<(0:Int)))) (some ([],(2:Int))) (
      tif ((decide (a.2.2.2.2.2.1<(0:Int)))) (some ([],(2:Int))) (
      tif ((decide (a.2.2.2.2.2.2<(0:Int)))) (some ([],(2:Int))) (
      tif ((decide ((4096:Int)<(((List.length s):Nat):Int)))) (some ([],(2:Int))) (
      some (s,(0:Int)))))))))=some (if good a then (txtA a,0) else ([],2)):=by
  rw[r29_same n a b hw.l,obs]
  simp only[tif_ite,decide_eq_true_eq]
  by_cases hg:good a
  · obtain ⟨hs,k1,k2,k3,k4⟩:=h1 hg
    have hl:=hg.2.2
    rw[decide_eq_true (show a=b by rw[hb,hg.2.1]),if_neg (by simp),if_neg (by omega),if_neg (by omega),if_neg (by omega),if_neg (by omega),if_neg (by rw[hs];omega),if_pos hg,hs]
  · rw[if_neg hg]
    by_cases he:a=b
    · rw[decide_eq_true he,if_neg (by simp)]
      by_cases k1:a.2.2.2.1<0
      · rw[if_pos k1]
      rw[if_neg k1]
      by_cases k2:a.2.2.2.2.1<0
      · rw[if_pos k2]
      rw[if_neg k2]
      by_cases k3:a.2.2.2.2.2.1<0
      · rw[if_pos k3]
      rw[if_neg k3]
      by_cases k4:a.2.2.2.2.2.2<0
      · rw[if_pos k4]
      rw[if_neg k4]
      have:=h0 hg (by rw[←hb,←he]) ⟨by omega,by omega,by omega,by omega⟩
      rw[if_pos (by omega)]
    · rw[decide_eq_false he,if_pos (by simp)]
theorem r29_line1 (n:Nat) (a:ActT) (hw:ActW a) (h:a.1=1):r29_Line (n+26) a=some (if good a then (txtA a,0) else ([],2)):=by
  rw[r29_Line_eq,show n+25=(n+22)+3 by omega,r05_text (n+22) a.2.1,obs,show n+22+3=n+25 by omega]
  obtain ⟨R,hR⟩:∃R,R=(if LabOk a.2.1 then (textL a.2.1,(0:Int)) else ([],8)):=⟨_,rfl⟩
  have hl:R.1.length≤10000:=by rw[hR];exact lab05 a.2.1
  have hRz:(!decide (R.2=0)) = !decide (LabOk a.2.1):=by rw[hR];exact lab05z a.2.1
  have hR1:LabOk a.2.1→R.1=textL a.2.1:=fun k=>by rw[hR,if_pos k]
  rw[←hR]
  simp only[tfd,if_pos h]
  have hV:=hw.e.v
  have eV:a.2.2.1.2.1=((a.2.2.1.2.1.toNat:Nat):Int):=by omega
  obtain ⟨sT,t1,t2,t3⟩:=num_val n hw.e.t
  obtain ⟨sC,c1,c2,c3⟩:=num_val n hw.e.c
  have hv:r29_num (n+25) a.2.2.1.2.1=some (32::toB (decI a.2.2.1.2.1.toNat)):=by
    have:=num_nat n (u:=a.2.2.1.2.1.toNat) (by omega)
    rw[←eV] at this;exact this
  have hd:=dec_len hV.1 hV.2
  rw[hv,obs,t1,obs,c1,obs,hRz,if_pos (by simp;omega),if_pos (by simp;omega),if_pos (by simp;omega),if_pos (by simp;omega),if_pos (by simp;omega),tif_ite]
  have hok:okK a↔(0≤a.2.2.1.1∧(a.2.2.1.2.2.2=true∨0≤a.2.2.1.2.2.1))∧LabOk a.2.1:=by unfold okK;rw[if_pos h]
  have htold:told a=(1,a.2.1,(if a.2.2.1.2.2.2=true then (a.2.2.1.1,0,0,true) else a.2.2.1),0,0,0,0):=by unfold told;rw[if_pos h]
  have htx:txtA a=(if a.2.2.1.2.2.2=true then wStale++32::nt a.2.2.1.1 else wWrite++32::(toB (decI a.2.2.1.2.1.toNat)++32::(nt a.2.2.1.1++32::nt a.2.2.1.2.2.1)))++32::textL a.2.1:=by unfold txtA;rw[if_pos h]
  have hz:told a=a→a.2.2.2.1=0∧a.2.2.2.2.1=0∧a.2.2.2.2.2.1=0∧a.2.2.2.2.2.2=0:=fun e=>by
    rw[htold] at e
    have e2:=congrArg (fun z:ActT=>z.2.2.2) e
    simp only at e2
    rw[←e2];exact ⟨rfl,rfl,rfl,rfl⟩
  by_cases hs:a.2.2.1.2.2.2=true
  · rw[if_pos hs]
    rw[if_pos hs] at htold htx
    have hz2:told a=a→a.2.2.1.2.2.1=0:=fun e=>by
      rw[htold] at e
      have e2:=congrArg (fun z:ActT=>z.2.2.1.2.2.1) e
      exact e2.symm
    rw[obs,if_pos (by omega),if_pos (by simp;omega),if_pos (by simp;omega),tif_ite]
    by_cases hlo:LabOk a.2.1
    · rw[decide_eq_true hlo,if_neg (by simp)]
      by_cases k1:a.2.2.1.1<0
      · rw[if_pos k1,if_neg (fun g:good a=>by have:=hok.1 g.1;omega)]
      rw[if_neg k1]
      by_cases k2:a.2.2.1.2.2.1<0
      · rw[if_pos k2,if_neg (fun g:good a=>by have:=hz2 g.2.1;omega)]
      rw[if_neg k2]
      have hs':([115,116,97,108,101]++sT++[32]++R.1)=txtA a:=by
        rw[htx,t3 (by omega),hR1 hlo]
        simp[wStale]
      have hfin:=r29_tail (n+23) a (a.1,a.2.1,(a.2.2.1.1,0,0,true),0,0,0,0) hw (by rw[htold,h]) ([115,116,97,108,101]++sT++[32]++R.1) (fun hg e k=>by
        rw[hs']
        rcases Nat.lt_or_ge 4096 (txtA a).length with q | q
        · exact q
        · exact absurd ⟨hok.2 ⟨⟨by omega,.inl hs⟩,hlo⟩,e,q⟩ hg) (fun g=>by
        obtain ⟨q1,q2,q3,q4⟩:=hz g.2.1
        exact ⟨hs',by omega,by omega,by omega,by omega⟩)
      simp only[tfd] at hfin
      exact hfin
    · rw[decide_eq_false hlo,if_pos (by simp),if_neg (fun g:good a=>hlo (hok.1 g.1).2)]
  · rw[if_neg hs]
    rw[if_neg hs] at htold htx
    rw[tif_ite]
    by_cases hlo:LabOk a.2.1
    · rw[decide_eq_true hlo,if_neg (by simp)]
      by_cases k1:a.2.2.1.1<0
      · rw[if_pos k1,if_neg (fun g:good a=>by have:=hok.1 g.1;omega)]
      rw[if_neg k1]
      by_cases k2:a.2.2.1.2.2.1<0
      · rw[if_pos k2,if_neg (fun g:good a=>by
          have:=(hok.1 g.1).1.2
          rcases this with q | q
          · exact hs q
          · omega)]
      rw[if_neg k2]
      have hs':([119,114,105,116,101]++32::toB (decI a.2.2.1.2.1.toNat)++sT++sC++[32]++R.1)=txtA a:=by
        rw[htx,t3 (by omega),c3 (by omega),hR1 hlo]
        simp[wWrite]
      have hfin:=r29_tail (n+23) a (a.1,a.2.1,a.2.2.1,0,0,0,0) hw (by rw[htold,h]) ([119,114,105,116,101]++32::toB (decI a.2.2.1.2.1.toNat)++sT++sC++[32]++R.1) (fun hg e k=>by
        rw[hs']
        rcases Nat.lt_or_ge 4096 (txtA a).length with q | q
        · exact q
        · exact absurd ⟨hok.2 ⟨⟨by omega,.inr (by omega)⟩,hlo⟩,e,q⟩ hg) (fun g=>by
        obtain ⟨q1,q2,q3,q4⟩:=hz g.2.1
        exact ⟨hs',by omega,by omega,by omega,by omega⟩)
      simp only[tfd] at hfin
      exact hfin
    · rw[decide_eq_false hlo,if_pos (by simp),if_neg (fun g:good a=>hlo (hok.1 g.1).2)]
theorem r29_line5 (n:Nat) (a:ActT) (hw:ActW a) (h:a.1=5):r29_Line (n+26) a=some (if good a then (txtA a,0) else ([],2)):=by
  rw[r29_Line_eq,show n+25=(n+22)+3 by omega,r05_text (n+22) a.2.1,obs,show n+22+3=n+25 by omega]
  obtain ⟨R,hR⟩:∃R,R=(if LabOk a.2.1 then (textL a.2.1,(0:Int)) else ([],8)):=⟨_,rfl⟩
  have hl:R.1.length≤10000:=by rw[hR];exact lab05 a.2.1
  have hRz:(!decide (R.2=0)) = !decide (LabOk a.2.1):=by rw[hR];exact lab05z a.2.1
  have hR1:LabOk a.2.1→R.1=textL a.2.1:=fun k=>by rw[hR,if_pos k]
  rw[←hR]
  simp only[tfd,if_neg (show ¬a.1=1 by omega),if_pos h]
  obtain ⟨sT,t1,t2,t3⟩:=num_val n hw.t
  obtain ⟨sA,a1,a2,a3⟩:=num_val n hw.fa
  obtain ⟨sB,b1,b2,b3⟩:=num_val n hw.fb
  rw[t1,obs,a1,obs,b1,obs,hRz,if_pos (by omega),if_pos (by simp;omega),if_pos (by simp;omega),if_pos (by simp;omega),if_pos (by simp;omega),tif_ite]
  have hok:okK a↔(0≤a.2.2.2.1∧0≤a.2.2.2.2.1∧0≤a.2.2.2.2.2.1)∧LabOk a.2.1:=by unfold okK;rw[if_neg (by omega),if_pos h]
  have htold:told a=(5,a.2.1,e0,a.2.2.2.1,a.2.2.2.2.1,a.2.2.2.2.2.1,0):=by unfold told;rw[if_neg (by omega),if_pos h]
  have htx:txtA a=wAsk++32::(nt a.2.2.2.1++32::(nt a.2.2.2.2.1++32::(nt a.2.2.2.2.2.1++32::textL a.2.1))):=by unfold txtA;rw[if_neg (by omega),if_pos h]
  have hz:told a=a→a.2.2.2.2.2.2=0:=fun e=>by
    rw[htold] at e
    exact (congrArg (fun z:ActT=>z.2.2.2.2.2.2) e).symm
  by_cases hlo:LabOk a.2.1
  · rw[decide_eq_true hlo,if_neg (by simp)]
    have hs':0≤a.2.2.2.1→0≤a.2.2.2.2.1→0≤a.2.2.2.2.2.1→([97,115,107]++sT++sA++sB++[32]++R.1)=txtA a:=fun k1 k2 k3=>by
      rw[htx,t3 k1,a3 k2,b3 k3,hR1 hlo]
      simp[wAsk]
    have hfin:=r29_tail (n+23) a (a.1,a.2.1,e0,a.2.2.2.1,a.2.2.2.2.1,a.2.2.2.2.2.1,0) hw (by rw[htold,h]) ([97,115,107]++sT++sA++sB++[32]++R.1) (fun hg e k=>by
      rw[hs' k.1 k.2.1 k.2.2.1]
      rcases Nat.lt_or_ge 4096 (txtA a).length with q | q
      · exact q
      · exact absurd ⟨hok.2 ⟨⟨k.1,k.2.1,k.2.2.1⟩,hlo⟩,e,q⟩ hg) (fun g=>by
      have:=(hok.1 g.1).1
      have q4:=hz g.2.1
      exact ⟨hs' this.1 this.2.1 this.2.2,this.1,this.2.1,this.2.2,by omega⟩)
    simp only[tfd] at hfin
    exact hfin
  · rw[decide_eq_false hlo,if_pos (by simp),if_neg (fun g:good a=>hlo (hok.1 g.1).2)]
theorem r29_line6 (n:Nat) (a:ActT) (hw:ActW a) (h:a.1=6):r29_Line (n+26) a=some (if good a then (txtA a,0) else ([],2)):=by
  rw[r29_Line_eq,show n+25=(n+22)+3 by omega,r05_text (n+22) a.2.1,obs,show n+22+3=n+25 by omega]
  simp only[tfd,if_neg (show ¬a.1=1 by omega),if_neg (show ¬a.1=5 by omega),if_pos h]
  obtain ⟨sT,t1,t2,t3⟩:=num_val n hw.t
  obtain ⟨sA,a1,a2,a3⟩:=num_val n hw.fa
  obtain ⟨sB,b1,b2,b3⟩:=num_val n hw.fb
  rw[t1,obs,a1,obs,b1,obs,if_pos (by omega),if_pos (by simp;omega),if_pos (by simp;omega)]
  have hok:okK a↔(0≤a.2.2.2.1∧0≤a.2.2.2.2.1∧0≤a.2.2.2.2.2.1):=by unfold okK;rw[if_neg (by omega),if_neg (by omega),if_pos h]
  have htold:told a=(6,[],e0,a.2.2.2.1,a.2.2.2.2.1,a.2.2.2.2.2.1,0):=by unfold told;rw[if_neg (by omega),if_neg (by omega),if_pos h]
  have htx:txtA a=wTotal++32::(nt a.2.2.2.1++32::(nt a.2.2.2.2.1++32::nt a.2.2.2.2.2.1)):=by unfold txtA;rw[if_neg (by omega),if_neg (by omega),if_pos h]
  have hz:told a=a→a.2.2.2.2.2.2=0:=fun e=>by
    rw[htold] at e
    exact (congrArg (fun z:ActT=>z.2.2.2.2.2.2) e).symm
  have hs':0≤a.2.2.2.1→0≤a.2.2.2.2.1→0≤a.2.2.2.2.2.1→([116,111,116,97,108]++sT++sA++sB)=txtA a:=fun k1 k2 k3=>by
    rw[htx,t3 k1,a3 k2,b3 k3]
    simp[wTotal]
  have:=r29_tail (n+23) a (a.1,[],e0,a.2.2.2.1,a.2.2.2.2.1,a.2.2.2.2.2.1,0) hw (by rw[htold,h]) ([116,111,116,97,108]++sT++sA++sB) (fun hg e k=>by
    rw[hs' k.1 k.2.1 k.2.2.1]
    rcases Nat.lt_or_ge 4096 (txtA a).length with q | q
    · exact q
    · exact absurd ⟨hok.2 ⟨k.1,k.2.1,k.2.2.1⟩,e,q⟩ hg) (fun g=>by
    have:=hok.1 g.1
    have q4:=hz g.2.1
    exact ⟨hs' this.1 this.2.1 this.2.2,this.1,this.2.1,this.2.2,by omega⟩)
  simp only[tfd] at this
  exact this
theorem r29_lineN (n:Nat) (a:ActT) (hw:ActW a) (w:List UInt8) (h:a.1=2∨a.1=8∨a.1=9) (sN:List UInt8) (n3:0≤a.2.2.2.2.2.2→sN=32::nt a.2.2.2.2.2.2) (htx:txtA a=w++32::nt a.2.2.2.2.2.2) :
    (obind (r29_Same (n+25) a (a.1,([],(((0:Int),((0:Int),((0:Int),false))),((0:Int),((0:Int),((0:Int),a.2.2.2.2.2.2))))))) fun r5 =>
      tif ((!r5)) (some ([],(2:Int))) (
      tif ((decide (a.2.2.2.1<(0:Int)))) (some ([],(2:Int))) (
      tif ((decide (a.2.2.2.2.1<(0:Int)))) (some ([],(2:Int))) (
      tif ((decide (a.2.2.2.2.2.1<(0:Int)))) (some ([],(2:Int))) (
      tif ((decide (a.2.2.2.2.2.2<(0:Int)))) (some ([],(2:Int))) (
      tif ((decide ((4096:Int)<(((List.length (w++sN)):Nat):Int)))) (some ([],(2:Int))) (
      some (w++sN,(0:Int)))))))))=some (if good a then (txtA a,0) else ([],2)):=by
  have hok:okK a↔0≤a.2.2.2.2.2.2:=by unfold okK;rw[if_neg (by omega),if_neg (by omega),if_neg (by omega),if_pos h]
  have htold:told a=(a.1,[],e0,0,0,0,a.2.2.2.2.2.2):=by unfold told;rw[if_neg (by omega),if_neg (by omega),if_neg (by omega),if_pos h]
  have hz:told a=a→a.2.2.2.1=0∧a.2.2.2.2.1=0∧a.2.2.2.2.2.1=0:=fun e=>by
    rw[htold] at e
    exact ⟨(congrArg (fun z:ActT=>z.2.2.2.1) e).symm,(congrArg (fun z:ActT=>z.2.2.2.2.1) e).symm,(congrArg (fun z:ActT=>z.2.2.2.2.2.1) e).symm⟩
  refine r29_tail (n+23) a _ hw (by rw[htold];rfl) _ (fun hg e k => ?_) (fun g => ?_)
  · rw[n3 k.2.2.2,←htx]
    rcases Nat.lt_or_ge 4096 (txtA a).length with q | q
    · exact q
    · exact absurd ⟨hok.2 k.2.2.2,e,q⟩ hg
  · have:=hok.1 g.1
    obtain ⟨q1,q2,q3⟩:=hz g.2.1
    exact ⟨by rw[n3 this,←htx],by omega,by omega,by omega,this⟩
theorem r29_line0 (n:Nat) (a:ActT) (hw:ActW a) (w:List UInt8) (hwl:w.length≤10) (h:a.1=3∨a.1=4∨a.1=7) (htx:txtA a=w) :
    (obind (r29_Same (n+25) a (a.1,([],(((0:Int),((0:Int),((0:Int),false))),((0:Int),((0:Int),((0:Int),(0:Int)))))))) fun r5 =>
      tif ((!r5)) (some ([],(2:Int))) (
      tif ((decide (a.2.2.2.1<(0:Int)))) (some ([],(2:Int))) (
      tif ((decide (a.2.2.2.2.1<(0:Int)))) (some ([],(2:Int))) (
      tif ((decide (a.2.2.2.2.2.1<(0:Int)))) (some ([],(2:Int))) (
      tif ((decide (a.2.2.2.2.2.2<(0:Int)))) (some ([],(2:Int))) (
      some (w,(0:Int))))))))=some (if good a then (txtA a,0) else ([],2)):=by
  have hok:okK a:=by unfold okK;rw[if_neg (by omega),if_neg (by omega),if_neg (by omega),if_neg (by omega)];exact h
  have htold:told a=(a.1,[],e0,0,0,0,0):=by unfold told;rw[if_neg (by omega),if_neg (by omega),if_neg (by omega),if_neg (by omega)]
  have hz:told a=a→a.2.2.2.1=0∧a.2.2.2.2.1=0∧a.2.2.2.2.2.1=0∧a.2.2.2.2.2.2=0:=fun e=>by
    rw[htold] at e
    exact ⟨(congrArg (fun z:ActT=>z.2.2.2.1) e).symm,(congrArg (fun z:ActT=>z.2.2.2.2.1) e).symm,(congrArg (fun z:ActT=>z.2.2.2.2.2.1) e).symm,(congrArg (fun z:ActT=>z.2.2.2.2.2.2) e).symm⟩
  have:=r29_tail (n+23) a (a.1,[],e0,0,0,0,0) hw (by rw[htold]) w (fun hg e k=>absurd ⟨hok,e,by rw[htx];omega⟩ hg) (fun g=>by
    obtain ⟨q1,q2,q3,q4⟩:=hz g.2.1
    exact ⟨htx.symm,by omega,by omega,by omega,by omega⟩)
  simp only[tfd,if_neg (show ¬(4096:Int)<((w.length:Nat):Int) by omega)] at this ⊢
  exact this
theorem r29_line (n:Nat) (a:ActT) (hw:ActW a):r29_Line (n+26) a=some (if good a then (txtA a,0) else ([],2)):=by
  by_cases h1:a.1=1
  · exact r29_line1 n a hw h1
  by_cases h5:a.1=5
  · exact r29_line5 n a hw h5
  by_cases h6:a.1=6
  · exact r29_line6 n a hw h6
  rw[r29_Line_eq,show n+25=(n+22)+3 by omega,r05_text (n+22) a.2.1,obs,show n+22+3=n+25 by omega,tfd,if_neg h1,tfd,if_neg h5,tfd,if_neg h6]
  obtain ⟨sN,t1,t2,t3⟩:=num_val n hw.fn
  by_cases h2:a.1=2
  · rw[tfd,if_pos h2,t1,obs,tfd,if_pos (by omega)]
    exact r29_lineN n a hw wTick (.inl h2) sN t3 (by unfold txtA;rw[if_neg h1,if_neg h5,if_neg h6,if_pos h2])
  rw[tfd,if_neg h2]
  by_cases h8:a.1=8
  · rw[tfd,if_pos h8,t1,obs,tfd,if_pos (by omega)]
    exact r29_lineN n a hw wArm (.inr (.inl h8)) sN t3 (by unfold txtA;rw[if_neg h1,if_neg h5,if_neg h6,if_neg h2,if_pos h8])
  rw[tfd,if_neg h8]
  by_cases h9:a.1=9
  · rw[tfd,if_pos h9,t1,obs,tfd,if_pos (by omega)]
    exact r29_lineN n a hw wLoad (.inr (.inr h9)) sN t3 (by unfold txtA;rw[if_neg h1,if_neg h5,if_neg h6,if_neg h2,if_neg h8,if_pos h9])
  rw[tfd,if_neg h9]
  by_cases h3:a.1=3
  · rw[tfd,if_pos h3]
    exact r29_line0 n a hw wSweep (by decide) (.inl h3) (by unfold txtA;rw[if_neg h1,if_neg h5,if_neg h6,if_neg h2,if_neg h8,if_neg h9,if_pos h3])
  rw[tfd,if_neg h3]
  by_cases h4:a.1=4
  · rw[tfd,if_pos h4]
    exact r29_line0 n a hw wFlush (by decide) (.inr (.inl h4)) (by unfold txtA;rw[if_neg h1,if_neg h5,if_neg h6,if_neg h2,if_neg h8,if_neg h9,if_neg h3,if_pos h4])
  rw[tfd,if_neg h4]
  by_cases h7:a.1=7
  · rw[tfd,if_pos h7]
    exact r29_line0 n a hw wDump (by decide) (.inr (.inr h7)) (by unfold txtA;rw[if_neg h1,if_neg h5,if_neg h6,if_neg h2,if_neg h8,if_neg h9,if_neg h3,if_neg h4,if_pos h7])
  rw[tfd,if_neg h7,if_neg (fun g:good a=>by
    have:=g.1
    unfold okK at this
    rw[if_neg h1,if_neg h5,if_neg h6,if_neg (by omega)] at this
    omega)]
theorem parseM_app (M:Nat) (r:List UInt8):∀(l:List UInt8) (acc:Nat),Lib.parseUintM M acc (l++r)=match Lib.parseUintM M acc l with | .ok a=>Lib.parseUintM M a r | Lib.NumEnd.syntax=>Lib.NumEnd.syntax | .range => .range
  | [],acc=>rfl
  | c::l,acc=>by
    simp only[List.cons_append,Lib.parseUintM]
    split
    · split
      · rfl
      split
      · rfl
      · exact parseM_app M r l _
    · rfl
theorem parseM_le (M:Nat):∀(l:List UInt8) (acc u:Nat),acc≤M→Lib.parseUintM M acc l = .ok u→u≤M
  | [],acc,u,h,e=>by
    unfold Lib.parseUintM at e
    injection e with e;omega
  | c::l,acc,u,h,e=>by
    unfold Lib.parseUintM at e
    split at e
    · split at e
      · cases e
      split at e
      · cases e
      · exact parseM_le M l _ u (by omega) e
    · cases e
theorem parseM_dec (M:Nat) (hM:M≤18446744073709551615):∀(k u:Nat),u≤k→u≤M→Lib.parseUintM M 0 (toB (decI u)) = .ok u:=by
  intro k
  induction k with
  | zero =>
    intro u hk hu
    have:u=0:=by omega
    subst this
    rw[decI_small (by omega)]
    show Lib.parseUintM M 0 [48]=_
    unfold Lib.parseUintM
    rw[if_pos (by decide),if_neg (by omega),if_neg (by simp)]
    rfl
  | succ k ih =>
    intro u hk hu
    have dig:∀d:Nat,d<10→(UInt8.ofNat (48+d)).toNat=48+d:=fun d hd=>by rw[UInt8.toNat_ofNat'];omega
    by_cases h:u<10
    · rw[decI_small h]
      show Lib.parseUintM M 0 [UInt8.ofNat (Int.toNat ((48+u:Nat):Int))]=_
      rw[Int.toNat_natCast]
      unfold Lib.parseUintM
      rw[dig u h,if_pos (by omega),if_neg (by omega),if_neg (by omega)]
      unfold Lib.parseUintM
      congr 1
      omega
    · rw[decI_step (by omega) (by omega),toB_append,parseM_app,ih (u / 10) (by omega) (by omega)]
      show Lib.parseUintM M (u / 10) [UInt8.ofNat (Int.toNat ((48+u % 10:Nat):Int))]=_
      rw[Int.toNat_natCast]
      unfold Lib.parseUintM
      rw[dig (u % 10) (by omega),if_pos (by omega),if_neg (by omega),if_neg (by omega)]
      unfold Lib.parseUintM
      congr 1
      omega
theorem decI_ne (u:Nat):toB (decI u)≠[]:=by
  intro h
  have:=congrArg List.length h
  unfold decI at this
  rw[toB_length,dgs_len] at this
  have:=ndg_pos u
  simp at *;omega
theorem puV_dec (B:Nat) (hB:2^B-1≤18446744073709551615) {u:Nat} (hu:u≤2^B-1):puV B (toB (decI u))=((u:Int),false):=by
  unfold puV Lib.parseUintB
  rw[if_neg (decI_ne u),parseM_dec (2^B-1) hB u u (Nat.le_refl _) hu]
theorem puV_range (B:Nat) (l:List UInt8):0≤(puV B l).1∧(puV B l).1≤((2^B-1:Nat):Int):=by
  unfold puV Lib.parseUintB
  split
  · rename_i u h
    split at h
    · cases h
    · have:=parseM_le (2^B-1) l 0 u (by omega) h
      exact ⟨by simp,by show (u:Int)≤_;omega⟩
  · exact ⟨by simp,by simp⟩
  · exact ⟨by simp,by simp⟩
theorem I64_wrap (x:Int):I64 (IntKind.wrap .i64 x):=by
  unfold I64
  rw[IntKind.wrap_i64]
  omega
def wd (s:List UInt8):List UInt8:=(cutV s [32]).1
def rs (s:List UInt8):List UInt8:=(cutV s [32]).2.1
theorem wd_len (s:List UInt8):(wd s).length≤s.length:=(cutV_len s [32]).1
theorem rs_len (s:List UInt8):(rs s).length≤s.length:=(cutV_len s [32]).2
theorem wd_at {a t:List UInt8} (h:(32:UInt8) ∉ a):wd (a++32::t)=a∧rs (a++32::t)=t:=by
  have:=cutV_at (t:=t) (r:=[]) h
  unfold wd rs
  rw[show a++32::t=a++([32]++t) by simp,this]
  exact ⟨rfl,rfl⟩
theorem wd_end {a:List UInt8} (h:(32:UInt8) ∉ a):wd a=a∧rs a=[]:=by
  have:=cutV_no (r:=[]) h
  unfold wd rs
  rw[this]
  exact ⟨rfl,rfl⟩
theorem rword_val (n:Nat) (s:List UInt8) (bad:Bool) (hs:s.length≤100000):script_reader_word (n+4) (s,bad)=some (wd s,rs s,bad):=by
  rw[script_reader_word_eq,cut_val n s [32] (by omega) (by simp) (by simp),obs]
  rfl
theorem rbig_val (n:Nat) (s:List UInt8) (bad:Bool) (B:Nat) (hB:B=63∨B=64) (hs:s.length≤100000):script_reader_big (n+5) (s,bad) (B:Int)=some ((puV B (wd s)).1,rs s,bad||(puV B (wd s)).2):=by
  have hl:=wd_len s
  rw[script_reader_big_eq,rword_val n s bad hs,obs,strconv_ParseUint_eq,gParseUint,tif_ite,if_pos (by simp;omega),obs]
  cases bad<;>simp
theorem rnum_val (n:Nat) (s:List UInt8) (bad:Bool) (hs:s.length≤100000):script_reader_num (n+6) (s,bad)=some (IntKind.wrap .i64 (puV 63 (wd s)).1,rs s,bad||(puV 63 (wd s)).2):=by
  rw[script_reader_num_eq]
  have:=rbig_val n s bad 63 (.inl rfl) hs
  rw[show ((63:Nat):Int)=63 from rfl] at this
  rw[this,obs]
theorem rlab_tot (n:Nat) (s:List UInt8) (bad:Bool) (hs:s.length≤100000):∃l b,script_reader_labels (n+8) (s,bad)=some (l,s,b)∧(LabOk l∨l=[]):=by
  obtain ⟨r,h1,h2⟩:=label_parse_tot n s hs
  rw[script_reader_labels_eq,h1,obs]
  have h3:LabOk r.1∨r.1=[]:=by
    rcases h2 with q | q
    · exact .inl q.2
    · rw[q];exact .inr rfl
  cases bad with
  | true=>exact ⟨_,_,rfl,h3⟩
  | false=>exact ⟨_,_,rfl,h3⟩
theorem rlab_text (n:Nat) {l:List Lab} (h:LabOk l):script_reader_labels (n+8) (textL l,false)=some (l,textL l,false):=by
  rw[script_reader_labels_eq,label_parse_text n h,obs]
  rfl
theorem lab_len {l:List Lab} (h:LabOk l∨l=[]):l.length≤1000000:=by
  rcases h with h | h
  · have:=h.n1;omega
  · subst h;simp
theorem ract_tot (n:Nat) (s:List UInt8) (hs:s.length≤50000):∃a r b,script_reader_act (n+9) (s,false)=some (a,r,b)∧ActW a:=by
  have l0:s.length≤100000:=by omega
  have l1:(rs s).length≤100000:=by have:=rs_len s;omega
  have l2:(rs (rs s)).length≤100000:=by have:=rs_len (rs s);omega
  have l3:(rs (rs (rs s))).length≤100000:=by have:=rs_len (rs (rs s));omega
  have l4:(rs (rs (rs (rs s)))).length≤100000:=by have:=rs_len (rs (rs (rs s)));omega
  have z:I64 0:=by unfold I64;omega
  have ez:EvW e0:=⟨z,by simp[e0],z⟩
  rw[script_reader_act_eq,rword_val (n+4) s false l0,obs]
  simp only[tif_ite]
  by_cases k1:(wd s==[119,114,105,116,101])=true
  · rw[if_pos k1]
    have e1:=rbig_val (n+3) (rs s) false 64 (.inr rfl) l1
    rw[show ((64:Nat):Int)=64 from rfl] at e1
    rw[e1,obs]
    dsimp only
    rw[rnum_val (n+2) (rs (rs s)) _ l2,obs]
    dsimp only
    rw[rnum_val (n+2) (rs (rs (rs s))) _ l3,obs]
    dsimp only
    obtain ⟨l,b,q1,q2⟩:=rlab_tot n (rs (rs (rs (rs s)))) ((false||(puV 64 (wd (rs s))).2||(puV 63 (wd (rs (rs s)))).2)||(puV 63 (wd (rs (rs (rs s))))).2) l4
    rw[q1,obs]
    have:=puV_range 64 (wd (rs s))
    exact ⟨_,_,_,rfl,lab_len q2,⟨I64_wrap _,⟨this.1,this.2⟩,I64_wrap _⟩,z,z,z,z⟩
  rw[if_neg k1]
  by_cases k2:(wd s==[115,116,97,108,101])=true
  · rw[if_pos k2,rnum_val (n+2) (rs s) _ l1,obs]
    dsimp only
    obtain ⟨l,b,q1,q2⟩:=rlab_tot n (rs (rs s)) (false||(puV 63 (wd (rs s))).2) l2
    rw[q1,obs]
    exact ⟨_,_,_,rfl,lab_len q2,⟨I64_wrap _,by simp,z⟩,z,z,z,z⟩
  rw[if_neg k2]
  by_cases k3:(wd s==[97,115,107])=true
  · rw[if_pos k3,rnum_val (n+2) (rs s) _ l1,obs]
    dsimp only
    rw[rnum_val (n+2) (rs (rs s)) _ l2,obs]
    dsimp only
    rw[rnum_val (n+2) (rs (rs (rs s))) _ l3,obs]
    dsimp only
    obtain ⟨l,b,q1,q2⟩:=rlab_tot n (rs (rs (rs (rs s)))) ((false||(puV 63 (wd (rs s))).2||(puV 63 (wd (rs (rs s)))).2)||(puV 63 (wd (rs (rs (rs s))))).2) l4
    rw[q1,obs]
    exact ⟨_,_,_,rfl,lab_len q2,ez,I64_wrap _,I64_wrap _,I64_wrap _,z⟩
  rw[if_neg k3]
  by_cases k4:(wd s==[116,111,116,97,108])=true
  · rw[if_pos k4,rnum_val (n+2) (rs s) _ l1,obs]
    dsimp only
    rw[rnum_val (n+2) (rs (rs s)) _ l2,obs]
    dsimp only
    rw[rnum_val (n+2) (rs (rs (rs s))) _ l3,obs]
    exact ⟨_,_,_,rfl,by simp,ez,I64_wrap _,I64_wrap _,I64_wrap _,z⟩
  rw[if_neg k4]
  by_cases k5:(wd s==[116,105,99,107])=true
  · rw[if_pos k5,rnum_val (n+2) (rs s) _ l1,obs]
    exact ⟨_,_,_,rfl,by simp,ez,z,z,z,I64_wrap _⟩
  rw[if_neg k5]
  by_cases k6:(wd s==[97,114,109])=true
  · rw[if_pos k6,rnum_val (n+2) (rs s) _ l1,obs]
    exact ⟨_,_,_,rfl,by simp,ez,z,z,z,I64_wrap _⟩
  rw[if_neg k6]
  by_cases k7:(wd s==[108,111,97,100])=true
  · rw[if_pos k7,rnum_val (n+2) (rs s) _ l1,obs]
    exact ⟨_,_,_,rfl,by simp,ez,z,z,z,I64_wrap _⟩
  rw[if_neg k7]
  by_cases k8:(wd s==[115,119,101,101,112])=true
  · rw[if_pos k8];exact ⟨_,_,_,rfl,by simp,ez,z,z,z,z⟩
  rw[if_neg k8]
  by_cases k9:(wd s==[102,108,117,115,104])=true
  · rw[if_pos k9];exact ⟨_,_,_,rfl,by simp,ez,z,z,z,z⟩
  rw[if_neg k9]
  by_cases k10:(wd s==[100,117,109,112])=true
  · rw[if_pos k10];exact ⟨_,_,_,rfl,by simp,ez,z,z,z,z⟩
  rw[if_neg k10]
  exact ⟨_,_,_,rfl,by simp,ez,z,z,z,z⟩
theorem dec_no (u:Nat) {c:UInt8} (hc:c.toNat<48):c ∉ toB (decI u):=by
  intro h
  simp only[toB,List.mem_map] at h
  obtain ⟨x,hx,he⟩:=h
  have hr:=decI_range u x hx
  have:=congrArg UInt8.toNat he
  rw[UInt8.toNat_ofNat'] at this
  omega
theorem nt_no {x:Int} (h:0≤x):(32:UInt8) ∉ nt x:=by
  rw[nt_nn h];exact dec_no _ (by decide)
theorem nt_read {x:Int} (h:0≤x) (h1:I64 x):puV 63 (nt x)=(x,false)∧IntKind.wrap .i64 x=x:=by
  rw[nt_nn h,puV_dec 63 (by decide) (by have:=h1.2;omega)]
  refine ⟨?_,w64 h1.1 h1.2⟩
  rw[show ((x.toNat:Nat):Int)=x by omega]
theorem ract_good (n:Nat) {a:ActT} (hw:ActW a) (g:good a):∃r,script_reader_act (n+9) (txtA a,false)=some (a,r,false):=by
  have hlen:=g.2.2
  have ht:=g.2.1
  have hk:=g.1
  have l0:(txtA a).length≤100000:=by omega
  have e64:((64:Nat):Int)=64:=rfl
  rw[script_reader_act_eq,rword_val (n+4) (txtA a) false l0,obs]
  simp only[tif_ite]
  by_cases h1:a.1=1
  · have hok:(0≤a.2.2.1.1∧(a.2.2.1.2.2.2=true∨0≤a.2.2.1.2.2.1))∧LabOk a.2.1:=by unfold okK at hk;rw[if_pos h1] at hk;exact hk
    obtain ⟨⟨kT,kC⟩,hlo⟩:=hok
    obtain ⟨pT,qT⟩:=nt_read kT hw.e.t
    by_cases hs:a.2.2.1.2.2.2=true
    · have htx:txtA a=wStale++32::(nt a.2.2.1.1++32::textL a.2.1):=by unfold txtA;rw[if_pos h1,if_pos hs];simp
      have htold:told a=(1,a.2.1,(a.2.2.1.1,0,0,true),0,0,0,0):=by unfold told;rw[if_pos h1,if_pos hs]
      obtain ⟨w1,r1⟩:=wd_at (a:=wStale) (t:=nt a.2.2.1.1++32::textL a.2.1) (by decide)
      obtain ⟨w2,r2⟩:=wd_at (t:=textL a.2.1) (nt_no kT)
      rw[←htx] at w1 r1
      have l1:(rs (txtA a)).length≤100000:=by have:=rs_len (txtA a);omega
      have ew:(wd (txtA a)==[119,114,105,116,101])=false:=by rw[w1];rfl
      have ew2:(wd (txtA a)==[115,116,97,108,101])=true:=by rw[w1];rfl
      rw[if_neg (by rw[ew];simp),if_pos ew2,rnum_val (n+2) _ false l1,obs]
      dsimp only
      rw[r1,w2,r2,pT]
      show ∃r,(obind (script_reader_labels (n+8) (textL a.2.1,false)) fun r6=>some (((1:Int),(r6.1,((IntKind.wrap .i64 a.2.2.1.1,((0:Int),((0:Int),true))),((0:Int),((0:Int),((0:Int),(0:Int))))))),r6.2))=_
      rw[rlab_text n hlo,obs,qT]
      refine ⟨textL a.2.1,?_⟩
      rw[show ((1:Int),(a.2.1,((a.2.2.1.1,((0:Int),((0:Int),true))),((0:Int),((0:Int),((0:Int),(0:Int)))))))=a from htold.symm.trans ht]
    · have kC':0≤a.2.2.1.2.2.1:=by rcases kC with q | q;exact absurd q hs;exact q
      obtain ⟨pC,qC⟩:=nt_read kC' hw.e.c
      have hV:=hw.e.v
      have htx:txtA a=wWrite++32::(toB (decI a.2.2.1.2.1.toNat)++32::(nt a.2.2.1.1++32::(nt a.2.2.1.2.2.1++32::textL a.2.1))):=by unfold txtA;rw[if_pos h1,if_neg hs];simp
      have htold:told a=(1,a.2.1,a.2.2.1,0,0,0,0):=by unfold told;rw[if_pos h1,if_neg hs]
      obtain ⟨w1,r1⟩:=wd_at (a:=wWrite) (t:=toB (decI a.2.2.1.2.1.toNat)++32::(nt a.2.2.1.1++32::(nt a.2.2.1.2.2.1++32::textL a.2.1))) (by decide)
      obtain ⟨w2,r2⟩:=wd_at (t:=nt a.2.2.1.1++32::(nt a.2.2.1.2.2.1++32::textL a.2.1)) (dec_no a.2.2.1.2.1.toNat (c:=32) (by decide))
      obtain ⟨w3,r3⟩:=wd_at (t:=nt a.2.2.1.2.2.1++32::textL a.2.1) (nt_no kT)
      obtain ⟨w4,r4⟩:=wd_at (t:=textL a.2.1) (nt_no kC')
      rw[←htx] at w1 r1
      have l1:(rs (txtA a)).length≤100000:=by have:=rs_len (txtA a);omega
      have l2:(rs (rs (txtA a))).length≤100000:=by have:=rs_len (rs (txtA a));omega
      have l3:(rs (rs (rs (txtA a)))).length≤100000:=by have:=rs_len (rs (rs (txtA a)));omega
      have ew:(wd (txtA a)==[119,114,105,116,101])=true:=by rw[w1];rfl
      have pV:puV 64 (toB (decI a.2.2.1.2.1.toNat))=(a.2.2.1.2.1,false):=by
        rw[puV_dec 64 (by decide) (by omega),show ((a.2.2.1.2.1.toNat:Nat):Int)=a.2.2.1.2.1 by omega]
      have e1:=rbig_val (n+3) (rs (txtA a)) false 64 (.inr rfl) l1
      rw[e64] at e1
      rw[if_pos ew,e1,obs]
      dsimp only
      rw[rnum_val (n+2) _ _ l2,obs]
      dsimp only
      rw[rnum_val (n+2) _ _ l3,obs]
      dsimp only
      rw[r1,w2,r2,w3,r3,w4,r4,pV,pT,pC]
      show ∃r,(obind (script_reader_labels (n+8) (textL a.2.1,false)) fun r4=>some (((1:Int),(r4.1,((IntKind.wrap .i64 a.2.2.1.1,(a.2.2.1.2.1,(IntKind.wrap .i64 a.2.2.1.2.2.1,false))),((0:Int),((0:Int),((0:Int),(0:Int))))))),r4.2))=_
      rw[rlab_text n hlo,obs,qT,qC]
      refine ⟨textL a.2.1,?_⟩
      have hs':a.2.2.1.2.2.2=false:=by simpa using hs
      rw[←hs']
      rw[show ((1:Int),(a.2.1,((a.2.2.1.1,(a.2.2.1.2.1,(a.2.2.1.2.2.1,a.2.2.1.2.2.2))),((0:Int),((0:Int),((0:Int),(0:Int)))))))=a from htold.symm.trans ht]
  by_cases h5:a.1=5
  · have hok:(0≤a.2.2.2.1∧0≤a.2.2.2.2.1∧0≤a.2.2.2.2.2.1)∧LabOk a.2.1:=by unfold okK at hk;rw[if_neg h1,if_pos h5] at hk;exact hk
    obtain ⟨⟨kT,kA,kB⟩,hlo⟩:=hok
    obtain ⟨pT,qT⟩:=nt_read kT hw.t
    obtain ⟨pA,qA⟩:=nt_read kA hw.fa
    obtain ⟨pB,qB⟩:=nt_read kB hw.fb
    have htx:txtA a=wAsk++32::(nt a.2.2.2.1++32::(nt a.2.2.2.2.1++32::(nt a.2.2.2.2.2.1++32::textL a.2.1))):=by unfold txtA;rw[if_neg h1,if_pos h5]
    have htold:told a=(5,a.2.1,e0,a.2.2.2.1,a.2.2.2.2.1,a.2.2.2.2.2.1,0):=by unfold told;rw[if_neg h1,if_pos h5]
    obtain ⟨w1,r1⟩:=wd_at (a:=wAsk) (t:=nt a.2.2.2.1++32::(nt a.2.2.2.2.1++32::(nt a.2.2.2.2.2.1++32::textL a.2.1))) (by decide)
    obtain ⟨w2,r2⟩:=wd_at (t:=nt a.2.2.2.2.1++32::(nt a.2.2.2.2.2.1++32::textL a.2.1)) (nt_no kT)
    obtain ⟨w3,r3⟩:=wd_at (t:=nt a.2.2.2.2.2.1++32::textL a.2.1) (nt_no kA)
    obtain ⟨w4,r4⟩:=wd_at (t:=textL a.2.1) (nt_no kB)
    rw[←htx] at w1 r1
    have l1:(rs (txtA a)).length≤100000:=by have:=rs_len (txtA a);omega
    have l2:(rs (rs (txtA a))).length≤100000:=by have:=rs_len (rs (txtA a));omega
    have l3:(rs (rs (rs (txtA a)))).length≤100000:=by have:=rs_len (rs (rs (txtA a)));omega
    rw[if_neg (by rw[w1];decide),if_neg (by rw[w1];decide),if_pos (by rw[w1];decide),rnum_val (n+2) _ false l1,obs]
    dsimp only
    rw[rnum_val (n+2) _ _ l2,obs]
    dsimp only
    rw[rnum_val (n+2) _ _ l3,obs]
    dsimp only
    rw[r1,w2,r2,w3,r3,w4,r4,pT,pA,pB]
    show ∃r,(obind (script_reader_labels (n+8) (textL a.2.1,false)) fun r10=>some (((5:Int),(r10.1,(((0:Int),((0:Int),((0:Int),false))),(IntKind.wrap .i64 a.2.2.2.1,(IntKind.wrap .i64 a.2.2.2.2.1,(IntKind.wrap .i64 a.2.2.2.2.2.1,(0:Int))))))),r10.2))=_
    rw[rlab_text n hlo,obs,qT,qA,qB]
    refine ⟨textL a.2.1,?_⟩
    rw[show ((5:Int),(a.2.1,(((0:Int),((0:Int),((0:Int),false))),(a.2.2.2.1,(a.2.2.2.2.1,(a.2.2.2.2.2.1,(0:Int)))))))=a from htold.symm.trans ht]
  by_cases h6:a.1=6
  · have hok:(0≤a.2.2.2.1∧0≤a.2.2.2.2.1∧0≤a.2.2.2.2.2.1):=by unfold okK at hk;rw[if_neg h1,if_neg h5,if_pos h6] at hk;exact hk
    obtain ⟨kT,kA,kB⟩:=hok
    obtain ⟨pT,qT⟩:=nt_read kT hw.t
    obtain ⟨pA,qA⟩:=nt_read kA hw.fa
    obtain ⟨pB,qB⟩:=nt_read kB hw.fb
    have htx:txtA a=wTotal++32::(nt a.2.2.2.1++32::(nt a.2.2.2.2.1++32::nt a.2.2.2.2.2.1)):=by unfold txtA;rw[if_neg h1,if_neg h5,if_pos h6]
    have htold:told a=(6,[],e0,a.2.2.2.1,a.2.2.2.2.1,a.2.2.2.2.2.1,0):=by unfold told;rw[if_neg h1,if_neg h5,if_pos h6]
    obtain ⟨w1,r1⟩:=wd_at (a:=wTotal) (t:=nt a.2.2.2.1++32::(nt a.2.2.2.2.1++32::nt a.2.2.2.2.2.1)) (by decide)
    obtain ⟨w2,r2⟩:=wd_at (t:=nt a.2.2.2.2.1++32::nt a.2.2.2.2.2.1) (nt_no kT)
    obtain ⟨w3,r3⟩:=wd_at (t:=nt a.2.2.2.2.2.1) (nt_no kA)
    obtain ⟨w4,r4⟩:=wd_end (nt_no kB)
    rw[←htx] at w1 r1
    have l1:(rs (txtA a)).length≤100000:=by have:=rs_len (txtA a);omega
    have l2:(rs (rs (txtA a))).length≤100000:=by have:=rs_len (rs (txtA a));omega
    have l3:(rs (rs (rs (txtA a)))).length≤100000:=by have:=rs_len (rs (rs (txtA a)));omega
    rw[if_neg (by rw[w1];decide),if_neg (by rw[w1];decide),if_neg (by rw[w1];decide),if_pos (by rw[w1];decide),rnum_val (n+2) _ false l1,obs]
    dsimp only
    rw[rnum_val (n+2) _ _ l2,obs]
    dsimp only
    rw[rnum_val (n+2) _ _ l3,obs]
    dsimp only
    rw[r1,w2,r2,w3,r3,w4,r4,pT,pA,pB,qT,qA,qB]
    refine ⟨[],?_⟩
    have e:((6:Int),(([]:List Lab),(((0:Int),((0:Int),((0:Int),false))),(a.2.2.2.1,(a.2.2.2.2.1,(a.2.2.2.2.2.1,(0:Int)))))))=a:=htold.symm.trans ht
    rw[e]
    rfl
  by_cases hN:a.1=2∨a.1=8∨a.1=9
  · have kN:0≤a.2.2.2.2.2.2:=by unfold okK at hk;rw[if_neg h1,if_neg h5,if_neg h6,if_pos hN] at hk;exact hk
    obtain ⟨pN,qN⟩:=nt_read kN hw.fn
    have htold:told a=(a.1,[],e0,0,0,0,a.2.2.2.2.2.2):=by unfold told;rw[if_neg h1,if_neg h5,if_neg h6,if_pos hN]
    obtain ⟨w2,r2⟩:=wd_end (nt_no kN)
    have l1:(rs (txtA a)).length≤100000:=by have:=rs_len (txtA a);omega
    have e:(a.1,(([]:List Lab),(((0:Int),((0:Int),((0:Int),false))),((0:Int),((0:Int),((0:Int),a.2.2.2.2.2.2))))))=a:=htold.symm.trans ht
    rcases hN with h2 | h8 | h9
    · have htx:txtA a=wTick++32::nt a.2.2.2.2.2.2:=by unfold txtA;rw[if_neg h1,if_neg h5,if_neg h6,if_pos h2]
      obtain ⟨w1,r1⟩:=wd_at (a:=wTick) (t:=nt a.2.2.2.2.2.2) (by decide)
      rw[←htx] at w1 r1
      rw[if_neg (by rw[w1];decide),if_neg (by rw[w1];decide),if_neg (by rw[w1];decide),if_neg (by rw[w1];decide),if_pos (by rw[w1];decide),rnum_val (n+2) _ false l1,obs]
      dsimp only
      rw[r1,w2,r2,pN,qN]
      rw[h2] at e
      refine ⟨[],?_⟩
      rw[e]
      rfl
    · have htx:txtA a=wArm++32::nt a.2.2.2.2.2.2:=by unfold txtA;rw[if_neg h1,if_neg h5,if_neg h6,if_neg (by omega),if_pos h8]
      obtain ⟨w1,r1⟩:=wd_at (a:=wArm) (t:=nt a.2.2.2.2.2.2) (by decide)
      rw[←htx] at w1 r1
      rw[if_neg (by rw[w1];decide),if_neg (by rw[w1];decide),if_neg (by rw[w1];decide),if_neg (by rw[w1];decide),if_neg (by rw[w1];decide),if_pos (by rw[w1];decide),rnum_val (n+2) _ false l1,obs]
      dsimp only
      rw[r1,w2,r2,pN,qN]
      rw[h8] at e
      refine ⟨[],?_⟩
      rw[e]
      rfl
    · have htx:txtA a=wLoad++32::nt a.2.2.2.2.2.2:=by unfold txtA;rw[if_neg h1,if_neg h5,if_neg h6,if_neg (by omega),if_neg (by omega),if_pos h9]
      obtain ⟨w1,r1⟩:=wd_at (a:=wLoad) (t:=nt a.2.2.2.2.2.2) (by decide)
      rw[←htx] at w1 r1
      rw[if_neg (by rw[w1];decide),if_neg (by rw[w1];decide),if_neg (by rw[w1];decide),if_neg (by rw[w1];decide),if_neg (by rw[w1];decide),if_neg (by rw[w1];decide),if_pos (by rw[w1];decide),rnum_val (n+2) _ false l1,obs]
      dsimp only
      rw[r1,w2,r2,pN,qN]
      rw[h9] at e
      refine ⟨[],?_⟩
      rw[e]
      rfl
  have h0:a.1=3∨a.1=4∨a.1=7:=by unfold okK at hk;rw[if_neg h1,if_neg h5,if_neg h6,if_neg hN] at hk;exact hk
  have htold:told a=(a.1,[],e0,0,0,0,0):=by unfold told;rw[if_neg h1,if_neg h5,if_neg h6,if_neg hN]
  have e:(a.1,(([]:List Lab),(((0:Int),((0:Int),((0:Int),false))),((0:Int),((0:Int),((0:Int),(0:Int)))))))=a:=htold.symm.trans ht
  rcases h0 with h3 | h4 | h7
  · have htx:txtA a=wSweep:=by unfold txtA;rw[if_neg h1,if_neg h5,if_neg h6,if_neg (by omega),if_neg (by omega),if_neg (by omega),if_pos h3]
    obtain ⟨w1,r1⟩:=wd_end (a:=wSweep) (by decide)
    rw[←htx] at w1 r1
    have w1':wd (txtA a)=wSweep:=by rw[w1,htx]
    rw[if_neg (by rw[w1'];decide),if_neg (by rw[w1'];decide),if_neg (by rw[w1'];decide),if_neg (by rw[w1'];decide),if_neg (by rw[w1'];decide),if_neg (by rw[w1'];decide),if_neg (by rw[w1'];decide),if_pos (by rw[w1'];decide)]
    rw[h3] at e
    exact ⟨_,by rw[e]⟩
  · have htx:txtA a=wFlush:=by unfold txtA;rw[if_neg h1,if_neg h5,if_neg h6,if_neg (by omega),if_neg (by omega),if_neg (by omega),if_neg (by omega),if_pos h4]
    obtain ⟨w1,r1⟩:=wd_end (a:=wFlush) (by decide)
    rw[←htx] at w1 r1
    have w1':wd (txtA a)=wFlush:=by rw[w1,htx]
    rw[if_neg (by rw[w1'];decide),if_neg (by rw[w1'];decide),if_neg (by rw[w1'];decide),if_neg (by rw[w1'];decide),if_neg (by rw[w1'];decide),if_neg (by rw[w1'];decide),if_neg (by rw[w1'];decide),if_neg (by rw[w1'];decide),if_pos (by rw[w1'];decide)]
    rw[h4] at e
    exact ⟨_,by rw[e]⟩
  · have htx:txtA a=wDump:=by unfold txtA;rw[if_neg h1,if_neg h5,if_neg h6,if_neg (by omega),if_neg (by omega),if_neg (by omega),if_neg (by omega),if_neg (by omega),if_pos h7]
    obtain ⟨w1,r1⟩:=wd_end (a:=wDump) (by decide)
    rw[←htx] at w1 r1
    have w1':wd (txtA a)=wDump:=by rw[w1,htx]
    rw[if_neg (by rw[w1'];decide),if_neg (by rw[w1'];decide),if_neg (by rw[w1'];decide),if_neg (by rw[w1'];decide),if_neg (by rw[w1'];decide),if_neg (by rw[w1'];decide),if_neg (by rw[w1'];decide),if_neg (by rw[w1'];decide),if_neg (by rw[w1'];decide),if_pos (by rw[w1'];decide)]
    rw[h7] at e
    exact ⟨_,by rw[e]⟩
theorem script_parse (n:Nat) (s:List UInt8) (hs:s.length≤50000) :
    (∀a,ActW a→good a→txtA a=s→script_Parse (n+11) s=some (a,0)) ∧
    ((∀a,ActW a→good a→txtA a≠s)→script_Parse (n+11) s=some (z0A,4)):=by
  constructor
  · rintro a hw g rfl
    rw[script_Parse_eq,tfd,if_neg (by have:=g.2.2;omega)]
    obtain ⟨r,hr⟩:=ract_good (n+1) hw g
    rw[hr,obs]
    dsimp only
    rw[script_line n a hw,obs,if_pos g]
    simp[tif_ite]
  · intro hno
    rw[script_Parse_eq,tfd]
    by_cases hl:(4096:Int)<((s.length:Nat):Int)
    · rw[if_pos hl];rfl
    rw[if_neg hl]
    obtain ⟨a,r,b,h1,hw⟩:=ract_tot (n+1) s hs
    rw[h1,obs]
    dsimp only
    rw[script_line n a hw,obs]
    cases b with
    | true=>rfl
    | false =>
      by_cases g:good a
      · rw[if_pos g]
        have hne:=hno a hw g
        have:(txtA a==s)=false:=by
          cases hq:(txtA a==s) with
          | false=>rfl
          | true=>exact absurd (eq_of_beq hq) hne
        simp only[tif_ite,decide_true,Bool.not_true,Bool.false_eq_true,if_false,this,Bool.not_false,if_true]
        rfl
      · rw[if_neg g];rfl
def scan32:List UInt8→Nat
  | []=>0
  | c::r=>if c.toNat=32 then 0 else scan32 r+1
theorem scan32_le:∀s,scan32 s≤s.length
  | []=>Nat.le_refl _
  | c::r=>by
    have:=scan32_le r
    unfold scan32
    split<;>simp<;>omega
theorem scan32_at (q:List UInt8):∀a:List UInt8,(32:UInt8) ∉ a→scan32 (a++32::q)=a.length
  | [],_=>by show scan32 (32::q)=0;unfold scan32;rw[if_pos (by decide)]
  | c::a,h=>by
    have hc:¬c.toNat=32:=fun e=>h (by rw[show c=32 from UInt8.toNat_inj.1 e];exact List.mem_cons_self)
    have:=scan32_at q a (fun k=>h (List.mem_cons_of_mem _ k))
    show scan32 (c::(a++32::q))=_
    unfold scan32
    rw[if_neg hc,this];rfl
theorem scan32_end:∀a:List UInt8,(32:UInt8) ∉ a→scan32 a=a.length
  | [],_=>rfl
  | c::a,h=>by
    have hc:¬c.toNat=32:=fun e=>h (by rw[show c=32 from UInt8.toNat_inj.1 e];exact List.mem_cons_self)
    have:=scan32_end a (fun k=>h (List.mem_cons_of_mem _ k))
    unfold scan32
    rw[if_neg hc,this];rfl
theorem r29_scan (n:Nat) (t:List UInt8) (m:Int) (out:List (List UInt8)) (ht:t.length≤1000000):∀(rest pre:List UInt8) (f:Nat) (i:Int),t=pre++rest→i=pre.length →
    r29_words_l4 n (f+rest.length+1) (t,m,out,i,())=some (.inl (t,m,out,i+(scan32 rest:Int),())):=by
  intro rest
  induction rest with
  | nil =>
    intro pre f i h hi
    rw[r29_words_l4_eq]
    simp only[tfd,if_neg (idxe h hi rfl)]
    simp[scan32]
  | cons c rest ih =>
    intro pre f i h hi
    rw[show f+(c::rest).length+1=(f+rest.length+1)+1 by simp;omega,r29_words_l4_eq]
    simp only[tfd,if_pos (idx h hi rfl)]
    rw[at_mid h hi,obs,idxw h hi (by omega)]
    unfold scan32
    by_cases hc:c.toNat=32
    · have q:decide (((c.toNat:Nat):Int)=32)=true:=by simp;omega
      rw[q,if_pos hc]
      simp[tif_ite]
    · have q:decide (((c.toNat:Nat):Int)=32)=false:=by simp;omega
      rw[q,if_neg hc]
      simp only[Bool.not_false,tif_ite,if_true]
      rw[ih (pre++[c]) f (i+1) (idxl h) (idxs hi)]
      congr 6
      push_cast
      omega
def wordsF:Nat→List UInt8→List (List UInt8)×List UInt8
  | 0,s=>([],s)
  | k+1,s=>if scan32 s=s.length then ([s],[]) else (s.take (scan32 s)::(wordsF k (s.drop (scan32 s+1))).1,(wordsF k (s.drop (scan32 s+1))).2)
theorem wordsF_at (k:Nat) {a t:List UInt8} (h:(32:UInt8) ∉ a):wordsF (k+1) (a++32::t)=(a::(wordsF k t).1,(wordsF k t).2):=by
  have e:=scan32_at t a h
  show (if scan32 (a++32::t)=(a++32::t).length then _ else _)=_
  rw[e,if_neg (by simp),List.take_left]
  have:(a++32::t).drop (a.length+1)=t:=by
    rw[show a++32::t=(a++[32])++t by simp,show a.length+1=(a++[32]).length by simp,List.drop_left]
  rw[this]
theorem wordsF_end (k:Nat) {a:List UInt8} (h:(32:UInt8) ∉ a):wordsF (k+1) a=([a],[]):=by
  show (if scan32 a=a.length then _ else _)=_
  rw[scan32_end a h,if_pos rfl]
theorem wordsF_len:∀(k:Nat) (s:List UInt8),(wordsF k s).1.length≤k∧(0<k→1≤(wordsF k s).1.length)∧(wordsF k s).2.length≤s.length
  | 0,s=>by simp[wordsF]
  | k+1,s=>by
    obtain ⟨h1,h2,h3⟩:=wordsF_len k (s.drop (scan32 s+1))
    unfold wordsF
    split
    · simp
    · simp at h3
      refine ⟨by simp;omega,fun _=>by simp,?_⟩
      show (wordsF k (s.drop (scan32 s+1))).2.length≤_
      omega
theorem words_l (n:Nat):∀(k f:Nat) (s:List UInt8) (out:List (List UInt8)) (m:Int),s.length≤100000→m=((out.length+k:Nat):Int)→out.length+k≤100 →
    ∃z,r29_words_l2 (n+1) (f+k+1) (s,m,out,())=some z∧(selim (fun y1:List UInt8×(List (List UInt8)×Unit)=>some (y1.2.1,y1.1)) (fun z=>some z) z:Option (List (List UInt8)×List UInt8))=some (out++(wordsF k s).1,(wordsF k s).2):=by
  intro k
  induction k with
  | zero =>
    intro f s out m hs hm ho
    rw[r29_words_l2_eq]
    simp only[tfd]
    rw[if_neg (by omega)]
    exact ⟨_,rfl,by simp[wordsF]⟩
  | succ k ih =>
    intro f s out m hs hm ho
    rw[show f+(k+1)+1=(f+k+1)+1 by omega,r29_words_l2_eq]
    simp only[tif_ite,decide_eq_true_eq]
    have hsc:=scan32_le s
    have hq:=r29_scan (n+1) s m out (by omega) s [] (loopFuel-s.length-1) 0 rfl rfl
    rw[←lfu (by omega)] at hq
    rw[if_pos (by omega),hq,obs,selim_inl]
    simp only[Int.zero_add]
    rw[if_pos (by simp;omega),if_pos (by omega)]
    unfold wordsF
    by_cases he:scan32 s=s.length
    · rw[if_pos (by omega),if_pos he]
      refine ⟨_,rfl,?_⟩
      rw[selim_inr,he]
      simp
    · have w1:IntKind.wrap .i64 (((scan32 s:Nat):Int)+1)=((scan32 s+1:Nat):Int):=by rw[w64 (by omega) (by omega)];omega
      rw[if_neg (by omega),if_neg he,w1,if_pos (by omega),if_pos (by omega)]
      obtain ⟨z,z1,z2⟩:=ih f (s.drop (scan32 s+1)) (out++[s.take (scan32 s)]) m (by simp;omega) (by simp;omega) (by simp;omega)
      refine ⟨z,?_,?_⟩
      · rw[←z1]
        simp
      · rw[z2]
        simp
theorem words_val (n:Nat) (s:List UInt8) (k:Nat) (hs:s.length≤100000) (hk:k≤100):r29_words (n+2) s (k:Int)=some (wordsF k s):=by
  rw[r29_words_eq]
  obtain ⟨z,z1,z2⟩:=words_l n k (loopFuel-k-1) s [] (k:Int) hs (by simp) (by simp;omega)
  rw[←lfu (by omega)] at z1
  rw[z1,obs]
  refine Eq.trans ?_ z2
  cases z<;>rfl
def stV (v:Int) (c:UInt8):Int:=IntKind.wrap .u64 ((IntKind.wrap .u64 ((10:Int)*v))+(IntKind.wrap .u64 (Int.tmod (IntKind.wrap .u8 ((((UInt8.toNat c):Nat):Int)-(48:Int))) (10:Int))))
theorem value_l (n:Nat) (s:List UInt8) (hs:s.length≤1000000):∀(rest pre:List UInt8) (f:Nat) (v i:Int),s=pre++rest→i=pre.length →
    r29_value_l3 n (f+rest.length+1) (s,v,i,())=some (.inl ((rest.take (20-pre.length)).foldl stV v,())):=by
  intro rest
  induction rest with
  | nil =>
    intro pre f v i h hi
    rw[r29_value_l3_eq]
    simp only[tfd,if_neg (idxe h hi rfl)]
    simp
  | cons c rest ih =>
    intro pre f v i h hi
    rw[show f+(c::rest).length+1=(f+rest.length+1)+1 by simp;omega,r29_value_l3_eq]
    simp only[tfd,if_pos (idx h hi rfl)]
    by_cases h20:i<20
    · obtain ⟨j,hj⟩:∃j,20-pre.length=j+1:=⟨19-pre.length,by omega⟩
      rw[if_pos h20,at_mid h hi,obs,idxw h hi (by omega)]
      have:=ih (pre++[c]) f (stV v c) (i+1) (idxl h) (idxs hi)
      rw[show 20-(pre++[c]).length=j by simp;omega] at this
      rw[hj,List.take_succ_cons,List.foldl_cons,←this]
      rfl
    · rw[if_neg h20,show 20-pre.length=0 by omega]
      rfl
theorem value_val (n:Nat) (s:List UInt8) (hs:s.length≤1000000):r29_value (n+1) s=some ((s.take 20).foldl stV 0):=by
  rw[r29_value_eq]
  have:=value_l n s hs s [] (loopFuel-s.length-1) 0 0 rfl rfl
  rw[←lfu (by omega)] at this
  rw[this,obs,selim_inl]
  rfl
theorem stV_range (v:Int) (c:UInt8):0≤stV v c∧stV v c≤18446744073709551615:=by
  unfold stV
  rw[IntKind.wrap_u64]
  omega
theorem foldV_range:∀(s:List UInt8) (v:Int),0≤v∧v≤18446744073709551615→0≤s.foldl stV v∧s.foldl stV v≤18446744073709551615
  | [],v,h=>h
  | c::s,v,h=>foldV_range s (stV v c) (stV_range v c)
theorem stV_dig {v d:Nat} (hd:d<10) (hv:10*v+d≤18446744073709551615):stV (v:Int) (UInt8.ofNat (48+d))=((10*v+d:Nat):Int):=by
  unfold stV
  have e:(UInt8.ofNat (48+d)).toNat=48+d:=by rw[UInt8.toNat_ofNat'];omega
  have e2:IntKind.wrap .u8 (((48+d:Nat):Int)-48)=(d:Int):=by rw[IntKind.wrap_u8];omega
  rw[e,e2,tmod_nn (by omega),wu64 (x:=10*(v:Int)) (by omega) (by omega),wu64 (x:=(d:Int) % 10) (by omega) (by omega),wu64 (by omega) (by omega)]
  omega
theorem foldV_dec:∀(k u:Nat),u≤k→u≤18446744073709551615→(toB (decI u)).foldl stV 0=(u:Int):=by
  intro k
  induction k with
  | zero =>
    intro u hk hu
    have:u=0:=by omega
    subst this
    rw[decI_small (by omega)]
    show stV ((0:Nat):Int) (UInt8.ofNat (48+0))=_
    rw[stV_dig (by omega) (by omega)]
  | succ k ih =>
    intro u hk hu
    by_cases h:u<10
    · rw[decI_small h]
      show stV ((0:Nat):Int) (UInt8.ofNat (Int.toNat ((48+u:Nat):Int)))=_
      rw[Int.toNat_natCast,stV_dig h (by omega)]
      simp
    · rw[decI_step (by omega) (by omega),toB_append,List.foldl_append,ih (u / 10) (by omega) (by omega)]
      show stV ((u / 10:Nat):Int) (UInt8.ofNat (Int.toNat ((48+u % 10:Nat):Int)))=_
      rw[Int.toNat_natCast,stV_dig (by omega) (by omega)]
      omega
theorem value_dec {u:Nat} (hu:u≤18446744073709551615):((toB (decI u)).take 20).foldl stV 0=(u:Int):=by
  have hl:(toB (decI u)).length≤20:=by
    unfold decI
    rw[toB_length,dgs_len];exact ndg_le (by omega)
  rw[List.take_of_length_le hl]
  exact foldV_dec u u (Nat.le_refl _) hu
theorem pad_l (n:Nat) (line:List UInt8) (s2:ActT) (l:List (List UInt8)) (r:List UInt8):∀(k f:Nat) (w:List (List UInt8)),4-w.length=k→w.length≤4 →
    r29_guess_l3 n (f+k+1) (line,s2,l,w,r,())=some (.inl (line,s2,l,w++List.replicate k [],r,())):=by
  intro k
  induction k with
  | zero =>
    intro f w h hw
    rw[r29_guess_l3_eq]
    simp only[tfd]
    rw[if_neg (by omega)]
    simp
  | succ k ih =>
    intro f w h hw
    rw[show f+(k+1)+1=(f+k+1)+1 by omega,r29_guess_l3_eq]
    simp only[tfd]
    rw[if_pos (by omega),if_pos (by omega),ih f (w++[[]]) (by simp;omega) (by simp;omega)]
    rw[List.replicate_succ]
    simp
def guessV (w0:List UInt8) (v1 v2 v3:Int) (l4 l2:List Lab):ActT :=
  if w0=wWrite then (1,l4,(IntKind.wrap .i64 v2,v1,IntKind.wrap .i64 v3,false),0,0,0,0)
  else if w0=wStale then (1,l2,(IntKind.wrap .i64 v1,0,0,true),0,0,0,0)
  else if w0=wAsk then (5,l4,e0,IntKind.wrap .i64 v1,IntKind.wrap .i64 v2,IntKind.wrap .i64 v3,0)
  else if w0=wTotal then (6,[],e0,IntKind.wrap .i64 v1,IntKind.wrap .i64 v2,IntKind.wrap .i64 v3,0)
  else if w0=wTick then (2,[],e0,0,0,0,IntKind.wrap .i64 v1)
  else if w0=wArm then (8,[],e0,0,0,0,IntKind.wrap .i64 v1)
  else if w0=wLoad then (9,[],e0,0,0,0,IntKind.wrap .i64 v1)
  else if w0=wSweep then (3,[],e0,0,0,0,0)
  else if w0=wFlush then (4,[],e0,0,0,0,0)
  else if w0=wDump then (7,[],e0,0,0,0,0)
  else (0,[],e0,0,0,0,0)
def wAt (s:List UInt8) (i:Nat):List UInt8:=((wordsF 4 s).1[i]?).getD []
def vAt (s:List UInt8) (i:Nat):Int:=((wAt s i).take 20).foldl stV 0
theorem wordsF_mem:∀(k:Nat) (s:List UInt8),∀w∈(wordsF k s).1,w.length≤s.length
  | 0,s,w,h=>by simp[wordsF] at h
  | k+1,s,w,h=>by
    unfold wordsF at h
    split at h
    · simp at h;subst h;omega
    · rcases List.mem_cons.1 h with rfl | h
      · simp;omega
      · have:=wordsF_mem k _ w h
        simp at this;omega
theorem wAt_len (s:List UInt8) (i:Nat):(wAt s i).length≤s.length:=by
  unfold wAt
  cases h:(wordsF 4 s).1[i]? with
  | none=>simp
  | some w=>exact wordsF_mem 4 s w (List.mem_of_getElem? h)
set_option maxHeartbeats 1000000 in
theorem guess_val (n:Nat) (s:List UInt8) (hs:s.length≤50000) (r4 r2:List Lab×Int) (h4:r05_Parse (n+5) (wordsF 4 s).2=some r4) (h2:r05_Parse (n+5) (wordsF 2 s).2=some r2) :
    r29_guess (n+6) s=some (guessV (((wordsF 1 s).1[0]?).getD []) (vAt s 1) (vAt s 2) (vAt s 3) r4.1 r2.1):=by
  have e1:=words_val (n+3) s 1 (by omega) (by omega)
  have e4:=words_val (n+3) s 4 (by omega) (by omega)
  have e2:=words_val (n+3) s 2 (by omega) (by omega)
  rw[show ((1:Nat):Int)=1 from rfl] at e1
  rw[show ((4:Nat):Int)=4 from rfl] at e4
  rw[show ((2:Nat):Int)=2 from rfl] at e2
  obtain ⟨k1,k2,k3⟩:=wordsF_len 4 s
  obtain ⟨m1,m2,m3⟩:=wordsF_len 1 s
  rw[r29_guess_eq,e1,obs,e4,obs]
  have hp:=pad_l (n+5) s z0A (wordsF 1 s).1 (wordsF 4 s).2 (4-(wordsF 4 s).1.length) (loopFuel-(4-(wordsF 4 s).1.length)-1) (wordsF 4 s).1 rfl k1
  rw[←lfu (by omega)] at hp
  show obind (r29_guess_l3 (n+5) loopFuel (s,z0A,(wordsF 1 s).1,(wordsF 4 s).1,(wordsF 4 s).2,())) _=_
  rw[hp,obs,selim_inl]
  obtain ⟨W,hW⟩:∃W,W=(wordsF 4 s).1++List.replicate (4-(wordsF 4 s).1.length) []:=⟨_,rfl⟩
  have hWl:W.length=4:=by rw[hW];simp;omega
  have hWi:∀i,i<4→W[i]? = some (wAt s i):=fun i hi=>by
    rw[hW]
    unfold wAt
    by_cases h:i<(wordsF 4 s).1.length
    · rw[List.getElem?_append_left h,List.getElem?_eq_getElem h];rfl
    · rw[List.getElem?_append_right (by omega),List.getElem?_replicate,if_pos (by omega),List.getElem?_eq_none (l:=(wordsF 4 s).1) (by omega)];rfl
  have hWa:∀i:Nat,i<4→at? W (i:Int)=some (wAt s i):=fun i hi=>by
    have:=hWi i hi
    simpa [at?] using this
  have a1:=hWa 1 (by omega)
  have a2:=hWa 2 (by omega)
  have a3:=hWa 3 (by omega)
  have b1:=hWi 1 (by omega)
  have b2:=hWi 2 (by omega)
  have b3:=hWi 3 (by omega)
  rw[show ((1:Nat):Int)=1 from rfl] at a1
  rw[show ((2:Nat):Int)=2 from rfl] at a2
  rw[show ((3:Nat):Int)=3 from rfl] at a3
  have c1:=wAt_len s 1
  have c2:=wAt_len s 2
  have c3:=wAt_len s 3
  dsimp only
  rw[←hW]
  rw[a1,obs,b1,obs,value_val (n+4) _ (by omega),obs,a2,obs,b2,obs,value_val (n+4) _ (by omega),obs,a3,obs,b3,obs,value_val (n+4) _ (by omega),obs,h4,obs]
  obtain ⟨w0,hw0⟩:∃w0,(wordsF 1 s).1[0]? = some w0:=⟨_,List.getElem?_eq_getElem (by have:=m2 (by omega);omega)⟩
  have hw0':at? (wordsF 1 s).1 0=some w0:=by simpa [at?] using hw0
  rw[hw0',obs,hw0,obs]
  have eb:∀x:List UInt8,(w0==x)=decide (w0=x):=fun x=>by rw[Bool.eq_iff_iff];simp
  rw[e2,obs,h2,obs]
  simp only[eb,Option.getD_some]
  unfold guessV
  rw[tfd,tfd,tfd,tfd,tfd,tfd,tfd,tfd,tfd,tfd]
  have go:∀ {p q:Prop} [Decidable p] [Decidable q] {x:ActT} {y:Option ActT} {z:ActT},(p↔q)→y=some z→(if p then some x else y)=some (if q then x else z):=by
    intro p q _ _ x y z hpq hy
    by_cases hp:p
    · rw[if_pos hp,if_pos (hpq.1 hp)]
    · rw[if_neg hp,if_neg (fun k=>hp (hpq.2 k)),hy]
  exact go Iff.rfl (go Iff.rfl (go Iff.rfl (go Iff.rfl (go Iff.rfl (go Iff.rfl (go Iff.rfl (go Iff.rfl (go Iff.rfl (go Iff.rfl rfl)))))))))
theorem nt_val {x:Int} (h:0≤x) (h1:I64 x):IntKind.wrap .i64 (((nt x).take 20).foldl stV 0)=x:=by
  rw[nt_nn h,value_dec (by have:=h1.2;omega),show ((x.toNat:Nat):Int)=x by omega]
  exact w64 h1.1 h1.2
theorem wAt_of {s:List UInt8} {L:List (List UInt8)} {r:List UInt8} (h:wordsF 4 s=(L,r)) (i:Nat) {w:List UInt8} (hw:L[i]? = some w):wAt s i=w:=by
  unfold wAt
  rw[h,hw];rfl
theorem guess_good (n:Nat) {a:ActT} (hw:ActW a) (g:good a):r29_guess (n+6) (txtA a)=some a:=by
  have hlen:=g.2.2
  have ht:=g.2.1
  have hk:=g.1
  have l4:(wordsF 4 (txtA a)).2.length≤100000:=by have:=(wordsF_len 4 (txtA a)).2.2;omega
  have l2:(wordsF 2 (txtA a)).2.length≤100000:=by have:=(wordsF_len 2 (txtA a)).2.2;omega
  obtain ⟨r4,p4,_⟩:=r05_parse_any (n+1) (wordsF 4 (txtA a)).2 l4
  obtain ⟨r2,p2,_⟩:=r05_parse_any (n+1) (wordsF 2 (txtA a)).2 l2
  have hg:=guess_val n (txtA a) (by omega) r4 r2 p4 p2
  rw[hg]
  by_cases h1:a.1=1
  · have hok:(0≤a.2.2.1.1∧(a.2.2.1.2.2.2=true∨0≤a.2.2.1.2.2.1))∧LabOk a.2.1:=by unfold okK at hk;rw[if_pos h1] at hk;exact hk
    obtain ⟨⟨kT,kC⟩,hlo⟩:=hok
    have hlp:=r05_parse_text (n+1) hlo
    by_cases hs:a.2.2.1.2.2.2=true
    · have htx:txtA a=wStale++32::(nt a.2.2.1.1++32::textL a.2.1):=by unfold txtA;rw[if_pos h1,if_pos hs];simp
      have htold:told a=(1,a.2.1,(a.2.2.1.1,0,0,true),0,0,0,0):=by unfold told;rw[if_pos h1,if_pos hs]
      have e1:(wordsF 1 (txtA a)).1[0]? = some wStale:=by rw[htx,wordsF_at 0 (by decide)];rfl
      have e2:wordsF 2 (txtA a)=([wStale,nt a.2.2.1.1],textL a.2.1):=by rw[htx,wordsF_at 1 (by decide),wordsF_at 0 (nt_no kT)];rfl
      have e4:wordsF 4 (txtA a)=(wStale::nt a.2.2.1.1::(wordsF 2 (textL a.2.1)).1,(wordsF 2 (textL a.2.1)).2):=by rw[htx,wordsF_at 3 (by decide),wordsF_at 2 (nt_no kT)]
      rw[e2] at p2
      have:r2=(a.2.1,0):=Option.some.inj (p2.symm.trans hlp)
      subst this
      have v1:vAt (txtA a) 1=((nt a.2.2.1.1).take 20).foldl stV 0:=by unfold vAt;rw[wAt_of e4 1 rfl]
      rw[e1,Option.getD_some]
      unfold guessV
      rw[if_neg (by decide),if_pos rfl,v1,nt_val kT hw.e.t]
      exact congrArg some (htold.symm.trans ht)
    · have kC':0≤a.2.2.1.2.2.1:=by rcases kC with q | q;exact absurd q hs;exact q
      have hV:=hw.e.v
      have htx:txtA a=wWrite++32::(toB (decI a.2.2.1.2.1.toNat)++32::(nt a.2.2.1.1++32::(nt a.2.2.1.2.2.1++32::textL a.2.1))):=by unfold txtA;rw[if_pos h1,if_neg hs];simp
      have htold:told a=(1,a.2.1,a.2.2.1,0,0,0,0):=by unfold told;rw[if_pos h1,if_neg hs]
      have e1:(wordsF 1 (txtA a)).1[0]? = some wWrite:=by rw[htx,wordsF_at 0 (by decide)];rfl
      have e4:wordsF 4 (txtA a)=([wWrite,toB (decI a.2.2.1.2.1.toNat),nt a.2.2.1.1,nt a.2.2.1.2.2.1],textL a.2.1):=by
        rw[htx,wordsF_at 3 (by decide),wordsF_at 2 (dec_no _ (by decide)),wordsF_at 1 (nt_no kT),wordsF_at 0 (nt_no kC')];rfl
      rw[e4] at p4
      have:r4=(a.2.1,0):=Option.some.inj (p4.symm.trans hlp)
      subst this
      have v1:vAt (txtA a) 1=a.2.2.1.2.1:=by unfold vAt;rw[wAt_of e4 1 rfl,value_dec (by omega)];omega
      have v2:vAt (txtA a) 2=((nt a.2.2.1.1).take 20).foldl stV 0:=by unfold vAt;rw[wAt_of e4 2 rfl]
      have v3:vAt (txtA a) 3=((nt a.2.2.1.2.2.1).take 20).foldl stV 0:=by unfold vAt;rw[wAt_of e4 3 rfl]
      rw[e1,Option.getD_some]
      unfold guessV
      rw[if_pos rfl,v1,v2,v3,nt_val kT hw.e.t,nt_val kC' hw.e.c]
      have hs':a.2.2.1.2.2.2=false:=by simpa using hs
      rw[←hs']
      exact congrArg some (htold.symm.trans ht)
  by_cases h5:a.1=5
  · have hok:(0≤a.2.2.2.1∧0≤a.2.2.2.2.1∧0≤a.2.2.2.2.2.1)∧LabOk a.2.1:=by unfold okK at hk;rw[if_neg h1,if_pos h5] at hk;exact hk
    obtain ⟨⟨kT,kA,kB⟩,hlo⟩:=hok
    have hlp:=r05_parse_text (n+1) hlo
    have htx:txtA a=wAsk++32::(nt a.2.2.2.1++32::(nt a.2.2.2.2.1++32::(nt a.2.2.2.2.2.1++32::textL a.2.1))):=by unfold txtA;rw[if_neg h1,if_pos h5]
    have htold:told a=(5,a.2.1,e0,a.2.2.2.1,a.2.2.2.2.1,a.2.2.2.2.2.1,0):=by unfold told;rw[if_neg h1,if_pos h5]
    have e1:(wordsF 1 (txtA a)).1[0]? = some wAsk:=by rw[htx,wordsF_at 0 (by decide)];rfl
    have e4:wordsF 4 (txtA a)=([wAsk,nt a.2.2.2.1,nt a.2.2.2.2.1,nt a.2.2.2.2.2.1],textL a.2.1):=by
      rw[htx,wordsF_at 3 (by decide),wordsF_at 2 (nt_no kT),wordsF_at 1 (nt_no kA),wordsF_at 0 (nt_no kB)];rfl
    rw[e4] at p4
    have:r4=(a.2.1,0):=Option.some.inj (p4.symm.trans hlp)
    subst this
    have v1:vAt (txtA a) 1=((nt a.2.2.2.1).take 20).foldl stV 0:=by unfold vAt;rw[wAt_of e4 1 rfl]
    have v2:vAt (txtA a) 2=((nt a.2.2.2.2.1).take 20).foldl stV 0:=by unfold vAt;rw[wAt_of e4 2 rfl]
    have v3:vAt (txtA a) 3=((nt a.2.2.2.2.2.1).take 20).foldl stV 0:=by unfold vAt;rw[wAt_of e4 3 rfl]
    rw[e1,Option.getD_some]
    unfold guessV
    rw[if_neg (by decide),if_neg (by decide),if_pos rfl,v1,v2,v3,nt_val kT hw.t,nt_val kA hw.fa,nt_val kB hw.fb]
    exact congrArg some (htold.symm.trans ht)
  by_cases h6:a.1=6
  · have hok:(0≤a.2.2.2.1∧0≤a.2.2.2.2.1∧0≤a.2.2.2.2.2.1):=by unfold okK at hk;rw[if_neg h1,if_neg h5,if_pos h6] at hk;exact hk
    obtain ⟨kT,kA,kB⟩:=hok
    have htx:txtA a=wTotal++32::(nt a.2.2.2.1++32::(nt a.2.2.2.2.1++32::nt a.2.2.2.2.2.1)):=by unfold txtA;rw[if_neg h1,if_neg h5,if_pos h6]
    have htold:told a=(6,[],e0,a.2.2.2.1,a.2.2.2.2.1,a.2.2.2.2.2.1,0):=by unfold told;rw[if_neg h1,if_neg h5,if_pos h6]
    have e1:(wordsF 1 (txtA a)).1[0]? = some wTotal:=by rw[htx,wordsF_at 0 (by decide)];rfl
    have e4:wordsF 4 (txtA a)=([wTotal,nt a.2.2.2.1,nt a.2.2.2.2.1,nt a.2.2.2.2.2.1],[]):=by
      rw[htx,wordsF_at 3 (by decide),wordsF_at 2 (nt_no kT),wordsF_at 1 (nt_no kA),wordsF_end 0 (nt_no kB)]
    have v1:vAt (txtA a) 1=((nt a.2.2.2.1).take 20).foldl stV 0:=by unfold vAt;rw[wAt_of e4 1 rfl]
    have v2:vAt (txtA a) 2=((nt a.2.2.2.2.1).take 20).foldl stV 0:=by unfold vAt;rw[wAt_of e4 2 rfl]
    have v3:vAt (txtA a) 3=((nt a.2.2.2.2.2.1).take 20).foldl stV 0:=by unfold vAt;rw[wAt_of e4 3 rfl]
    rw[e1,Option.getD_some]
    unfold guessV
    rw[if_neg (by decide),if_neg (by decide),if_neg (by decide),if_pos rfl,v1,v2,v3,nt_val kT hw.t,nt_val kA hw.fa,nt_val kB hw.fb]
    exact congrArg some (htold.symm.trans ht)
  by_cases hN:a.1=2∨a.1=8∨a.1=9
  · have kN:0≤a.2.2.2.2.2.2:=by unfold okK at hk;rw[if_neg h1,if_neg h5,if_neg h6,if_pos hN] at hk;exact hk
    have htold:told a=(a.1,[],e0,0,0,0,a.2.2.2.2.2.2):=by unfold told;rw[if_neg h1,if_neg h5,if_neg h6,if_pos hN]
    have e:=htold.symm.trans ht
    have hx:∀w:List UInt8,(32:UInt8) ∉ w→txtA a=w++32::nt a.2.2.2.2.2.2→(wordsF 1 (txtA a)).1[0]? = some w∧IntKind.wrap .i64 (vAt (txtA a) 1)=a.2.2.2.2.2.2:=by
      intro w hw1 htx
      have e4:wordsF 4 (txtA a)=([w,nt a.2.2.2.2.2.2],[]):=by rw[htx,wordsF_at 3 hw1,wordsF_end 2 (nt_no kN)]
      refine ⟨by rw[htx,wordsF_at 0 hw1];rfl,?_⟩
      unfold vAt
      rw[wAt_of e4 1 rfl,nt_val kN hw.fn]
    rcases hN with h2 | h8 | h9
    · obtain ⟨e1,v1⟩:=hx wTick (by decide) (by unfold txtA;rw[if_neg h1,if_neg h5,if_neg h6,if_pos h2])
      rw[e1,Option.getD_some]
      unfold guessV
      rw[if_neg (by decide),if_neg (by decide),if_neg (by decide),if_neg (by decide),if_pos rfl,v1]
      rw[h2] at e
      exact congrArg some e
    · obtain ⟨e1,v1⟩:=hx wArm (by decide) (by unfold txtA;rw[if_neg h1,if_neg h5,if_neg h6,if_neg (by omega),if_pos h8])
      rw[e1,Option.getD_some]
      unfold guessV
      rw[if_neg (by decide),if_neg (by decide),if_neg (by decide),if_neg (by decide),if_neg (by decide),if_pos rfl,v1]
      rw[h8] at e
      exact congrArg some e
    · obtain ⟨e1,v1⟩:=hx wLoad (by decide) (by unfold txtA;rw[if_neg h1,if_neg h5,if_neg h6,if_neg (by omega),if_neg (by omega),if_pos h9])
      rw[e1,Option.getD_some]
      unfold guessV
      rw[if_neg (by decide),if_neg (by decide),if_neg (by decide),if_neg (by decide),if_neg (by decide),if_neg (by decide),if_pos rfl,v1]
      rw[h9] at e
      exact congrArg some e
  have h0:a.1=3∨a.1=4∨a.1=7:=by unfold okK at hk;rw[if_neg h1,if_neg h5,if_neg h6,if_neg hN] at hk;exact hk
  have htold:told a=(a.1,[],e0,0,0,0,0):=by unfold told;rw[if_neg h1,if_neg h5,if_neg h6,if_neg hN]
  have e:=htold.symm.trans ht
  rcases h0 with h3 | h4 | h7
  · have htx:txtA a=wSweep:=by unfold txtA;rw[if_neg h1,if_neg h5,if_neg h6,if_neg (by omega),if_neg (by omega),if_neg (by omega),if_pos h3]
    have e1:(wordsF 1 (txtA a)).1[0]? = some wSweep:=by rw[htx,wordsF_end 0 (by decide)];rfl
    rw[e1,Option.getD_some]
    unfold guessV
    rw[if_neg (by decide),if_neg (by decide),if_neg (by decide),if_neg (by decide),if_neg (by decide),if_neg (by decide),if_neg (by decide),if_pos rfl]
    rw[h3] at e
    exact congrArg some e
  · have htx:txtA a=wFlush:=by unfold txtA;rw[if_neg h1,if_neg h5,if_neg h6,if_neg (by omega),if_neg (by omega),if_neg (by omega),if_neg (by omega),if_pos h4]
    have e1:(wordsF 1 (txtA a)).1[0]? = some wFlush:=by rw[htx,wordsF_end 0 (by decide)];rfl
    rw[e1,Option.getD_some]
    unfold guessV
    rw[if_neg (by decide),if_neg (by decide),if_neg (by decide),if_neg (by decide),if_neg (by decide),if_neg (by decide),if_neg (by decide),if_neg (by decide),if_pos rfl]
    rw[h4] at e
    exact congrArg some e
  · have htx:txtA a=wDump:=by unfold txtA;rw[if_neg h1,if_neg h5,if_neg h6,if_neg (by omega),if_neg (by omega),if_neg (by omega),if_neg (by omega),if_neg (by omega),if_pos h7]
    have e1:(wordsF 1 (txtA a)).1[0]? = some wDump:=by rw[htx,wordsF_end 0 (by decide)];rfl
    rw[e1,Option.getD_some]
    unfold guessV
    rw[if_neg (by decide),if_neg (by decide),if_neg (by decide),if_neg (by decide),if_neg (by decide),if_neg (by decide),if_neg (by decide),if_neg (by decide),if_neg (by decide),if_pos rfl]
    rw[h7] at e
    exact congrArg some e
theorem guess_tot (n:Nat) (s:List UInt8) (hs:s.length≤50000):∃a,r29_guess (n+6) s=some a∧ActW a:=by
  obtain ⟨r4,p4,q4⟩:=r05_parse_any (n+1) (wordsF 4 s).2 (by have:=(wordsF_len 4 s).2.2;omega)
  obtain ⟨r2,p2,q2⟩:=r05_parse_any (n+1) (wordsF 2 s).2 (by have:=(wordsF_len 2 s).2.2;omega)
  refine ⟨_,guess_val n s hs r4 r2 p4 p2,?_⟩
  have z:I64 0:=by unfold I64;omega
  have ez:EvW e0:=⟨z,by simp[e0],z⟩
  have hv:=foldV_range ((wAt s 1).take 20) 0 (by omega)
  have hv':0≤vAt s 1∧vAt s 1≤18446744073709551615:=hv
  unfold guessV
  split
  · exact ⟨lab_len q4,⟨I64_wrap _,hv',I64_wrap _⟩,z,z,z,z⟩
  split
  · exact ⟨lab_len q2,⟨I64_wrap _,by simp,z⟩,z,z,z,z⟩
  split
  · exact ⟨lab_len q4,ez,I64_wrap _,I64_wrap _,I64_wrap _,z⟩
  split
  · exact ⟨by simp,ez,I64_wrap _,I64_wrap _,I64_wrap _,z⟩
  split
  · exact ⟨by simp,ez,z,z,z,I64_wrap _⟩
  split
  · exact ⟨by simp,ez,z,z,z,I64_wrap _⟩
  split
  · exact ⟨by simp,ez,z,z,z,I64_wrap _⟩
  split
  · exact ⟨by simp,ez,z,z,z,z⟩
  split
  · exact ⟨by simp,ez,z,z,z,z⟩
  split
  · exact ⟨by simp,ez,z,z,z,z⟩
  · exact ⟨by simp,ez,z,z,z,z⟩
theorem r29_parse (n:Nat) (s:List UInt8) (hs:s.length≤50000) :
    (∀a,ActW a→good a→txtA a=s→r29_Parse (n+27) s=some (a,0)) ∧
    ((∀a,ActW a→good a→txtA a≠s)→r29_Parse (n+27) s=some (z0A,4)):=by
  constructor
  · rintro a hw g rfl
    rw[r29_Parse_eq,tfd,if_neg (by have:=g.2.2;omega),guess_good (n+20) hw g,obs,r29_line n a hw,obs,if_pos g]
    simp[tif_ite]
  · intro hno
    rw[r29_Parse_eq,tfd]
    by_cases hl:(4096:Int)<((s.length:Nat):Int)
    · rw[if_pos hl];rfl
    rw[if_neg hl]
    obtain ⟨a,h1,hw⟩:=guess_tot (n+20) s hs
    rw[h1,obs,r29_line n a hw,obs]
    by_cases g:good a
    · rw[if_pos g]
      have hne:=hno a hw g
      have:(txtA a==s)=false:=by
        cases hq:(txtA a==s) with
        | false=>rfl
        | true=>exact absurd (eq_of_beq hq) hne
      simp only[tif_ite,decide_true,Bool.not_true,Bool.false_eq_true,if_false,this,Bool.not_false,if_true]
      rfl
    · rw[if_neg g];rfl
theorem actW0:ActW z0A:=by
  have z:I64 0:=by unfold I64;omega
  exact ⟨by simp[z0A],⟨z,by simp[z0A,e0],z⟩,z,z,z,z⟩
theorem parse_both (n:Nat) (s:List UInt8) (hs:s.length≤50000):∃p:ActT×Int,script_Parse (n+27) s=some p∧r29_Parse (n+27) s=some p∧ActW p.1∧((p.2=0∧good p.1∧txtA p.1=s)∨p=(z0A,4)):=by
  by_cases h:∃a,ActW a∧good a∧txtA a=s
  · obtain ⟨a,h1,h2,h3⟩:=h
    exact ⟨(a,0),(script_parse (n+16) s hs).1 a h1 h2 h3,(r29_parse n s hs).1 a h1 h2 h3,h1,.inl ⟨rfl,h2,h3⟩⟩
  · have hno:∀a,ActW a→good a→txtA a≠s:=fun a h1 h2 h3=>h ⟨a,h1,h2,h3⟩
    exact ⟨(z0A,4),(script_parse (n+16) s hs).2 hno,(r29_parse n s hs).2 hno,actW0,.inr rfl⟩
theorem labs_small_l (n:Nat) (l:List Lab) (hl:l.length≤9223372036854775807):∀(k f i:Nat),40-i=k→i≤40→i≤l.length →
    ∃z:Unit ⊕ Int,l05_Small_l2 n (f+k+1) (l,(l.length:Int),(i:Int),())=some z∧((z = .inl ()∧l.length≤40)∨z = .inr 0):=by
  intro k
  induction k with
  | zero =>
    intro f i h hi hil
    rw[l05_Small_l2_eq]
    simp only[tif_ite,decide_eq_true_eq]
    by_cases h1:(i:Int)<(l.length:Int)
    · have hx:at? l (i:Int)=some l[i]:=by simp[at?]
      rw[if_pos h1,hx,obs,if_pos (by omega)]
      exact ⟨_,rfl,.inr rfl⟩
    · rw[if_neg h1]
      exact ⟨_,rfl,.inl ⟨rfl,by omega⟩⟩
  | succ k ih =>
    intro f i h hi hil
    rw[show f+(k+1)+1=(f+k+1)+1 by omega,l05_Small_l2_eq]
    simp only[tif_ite,decide_eq_true_eq]
    by_cases h1:(i:Int)<(l.length:Int)
    · have hx:at? l (i:Int)=some l[i]:=by simp[at?]
      rw[if_pos h1,hx,obs,if_neg (by omega)]
      by_cases h2:(1000:Int)<((l[i].1.length:Nat):Int)
      · rw[if_pos h2];exact ⟨_,rfl,.inr rfl⟩
      rw[if_neg h2]
      by_cases h3:(1000:Int)<((l[i].2.length:Nat):Int)
      · rw[if_pos h3];exact ⟨_,rfl,.inr rfl⟩
      rw[if_neg h3,w64 (by omega) (by omega),show (i:Int)+1=((i+1:Nat):Int) by omega]
      exact ih f (i+1) (by omega) (by omega) (by omega)
    · rw[if_neg h1]
      exact ⟨_,rfl,.inl ⟨rfl,by omega⟩⟩
theorem labs_small (n:Nat) (l:List Lab) (hl:l.length≤9223372036854775807):l05_Small (n+1) l=some 0∨(l05_Small (n+1) l=some 1∧l.length≤40):=by
  rw[l05_Small_eq]
  obtain ⟨z,h1,h2⟩:=labs_small_l n l hl 40 (loopFuel-41) 0 rfl (by omega) (by omega)
  rw[show loopFuel-41+40+1=loopFuel by unfold loopFuel;omega] at h1
  have h1':l05_Small_l2 n loopFuel (l,(l.length:Int),0,())=some z:=h1
  rw[h1',obs]
  rcases h2 with ⟨rfl,h⟩ | rfl
  · exact .inr ⟨rfl,h⟩
  · exact .inl rfl
theorem actW_wf {a:ActT} (h:Wf tyAct a) (hl:a.2.1.length≤40):ActW a:=by
  obtain ⟨_,_,hT,h4,h5,h6,h7⟩:=h
  obtain ⟨t1,t2,t3,_⟩:=hT
  exact ⟨by omega,⟨t1,t2,t3⟩,h4,h5,h6,h7⟩
theorem act_len {a:ActT} (h:Wf tyAct a):a.2.1.length≤9223372036854775807:=h.2.1.1
theorem scriptLines_true (n:Nat) (hlv:l29_lives (n+39)=some true) (a b:ActT) (line:List UInt8) (ha:Wf tyAct a) (hb:Wf tyAct b):l29_ScriptLines (n+40) a b line=some true:=by
  rw[l29_ScriptLines_eq]
  rcases labs_small (n+38) a.2.1 (act_len ha) with h | ⟨h,hl⟩
  · rw[h,obs,tfd,if_pos rfl,hlv,obs]
  rw[h,obs,tfd,if_neg (by decide)]
  rcases labs_small (n+38) b.2.1 (act_len hb) with h' | ⟨h',hl'⟩
  · rw[h',obs,tfd,if_pos rfl,hlv,obs]
  rw[h',obs,tfd,if_neg (by decide),tfd]
  by_cases hln:(16384:Int)<((line.length:Nat):Int)
  · rw[if_pos hln,hlv,obs]
  rw[if_neg hln]
  have hw:=actW_wf ha hl
  have hw':=actW_wf hb hl'
  obtain ⟨p,p1,p2,p3,_⟩:=parse_both (n+12) line (by omega)
  rw[script_line (n+29) a hw,obs,r29_line (n+13) a hw,obs,p1,obs,p2,obs,hlv,obs]
  have hs:=r29_same (n+37) p.1 p.1 p3.l
  rw[decide_eq_true rfl] at hs
  rw[hs,obs,script_same (n+36) a b hw.l,obs,r29_same (n+37) a b hw.l,obs]
  simp[tif_ite]
theorem acts_small_l (n:Nat) (l:List ActT) (hl:l.length≤9223372036854775807) (hw:∀a∈l,Wf tyAct a):∀(rest pre:List ActT) (f:Nat) (i:Int),l=pre++rest→i=pre.length →
    ∃z:Unit ⊕ Int,l29_Small_l4 (n+1) (f+rest.length+1) (l,(l.length:Int),i,())=some z∧((z = .inl ()∧∀k,k<200→∀a,rest[k-pre.length]? = some a→pre.length≤k→a.2.1.length≤40)∨z = .inr 0):=by
  intro rest
  induction rest with
  | nil =>
    intro pre f i h hi
    rw[l29_Small_l4_eq]
    simp only[tfd,if_neg (idxe h hi rfl)]
    exact ⟨_,rfl,.inl ⟨rfl,fun k _ a ha=>by simp at ha⟩⟩
  | cons a rest ih =>
    intro pre f i h hi
    have hlen:=congrArg List.length h
    simp at hlen
    rw[show f+(a::rest).length+1=(f+rest.length+1)+1 by simp;omega,l29_Small_l4_eq]
    simp only[tif_ite,decide_eq_true_eq]
    rw[if_pos (idx h hi rfl),at_mid h hi,obs,w64 (x:=i+1) (by omega) (by omega)]
    have hn:=ih (pre++[a]) f (i+1) (idxl h) (idxs hi)
    have step:a.2.1.length≤40∨¬i<200→∃z:Unit ⊕ Int,l29_Small_l4 (n+1) (f+rest.length+1) (l,(l.length:Int),i+1,())=some z∧((z = .inl ()∧∀k,k<200→∀b,(a::rest)[k-pre.length]? = some b→pre.length≤k→b.2.1.length≤40)∨z = .inr 0):=by
      intro ha
      obtain ⟨z,z1,z2⟩:=hn
      refine ⟨z,z1,?_⟩
      rcases z2 with ⟨q,z2⟩ | z2
      · refine .inl ⟨q,fun k hk b hb hp => ?_⟩
        rcases Nat.lt_or_ge pre.length k with hlt | hge
        · refine z2 k hk b ?_ (by simp;omega)
          rw[show k-pre.length=(k-(pre++[a]).length)+1 by simp;omega] at hb
          simpa using hb
        · have:k=pre.length:=by omega
          subst this
          simp at hb
          subst hb
          rcases ha with ha | ha
          · exact ha
          · omega
      · exact .inr z2
    by_cases h2:i<200
    · rw[if_pos h2]
      rcases labs_small n a.2.1 (act_len (hw a (by rw[h];simp))) with hs | ⟨hs,hs2⟩
      · rw[hs,obs,if_pos rfl]
        exact ⟨_,rfl,.inr rfl⟩
      · rw[hs,obs,if_neg (by decide)]
        exact step (.inl hs2)
    · rw[if_neg h2]
      exact step (.inr h2)
theorem acts_small (n:Nat) (l:List ActT) (hl:l.length≤9223372036854775807) (hw:∀a∈l,Wf tyAct a):l29_Small (n+2) l=some 0∨(l29_Small (n+2) l=some 1∧((l.length≤200∧∀a∈l,ActW a)∨4096<l.length)):=by
  rw[l29_Small_eq]
  obtain ⟨z,h1,h2⟩:=acts_small_l n l hl hw l [] (loopFuel-l.length-1) 0 rfl rfl
  rw[show loopFuel-l.length-1+l.length+1=loopFuel by unfold loopFuel;omega] at h1
  have hz:obind (l29_Small_l4 (n+1) loopFuel (l,(l.length:Int),0,())) (fun r0=>selim (fun y1=>some (1:Int)) (fun z2=>some z2) r0)=some 0∨(obind (l29_Small_l4 (n+1) loopFuel (l,(l.length:Int),0,())) (fun r0=>selim (fun y1=>some (1:Int)) (fun z2=>some z2) r0)=some 1∧∀k,k<200→∀a,l[k]? = some a→a.2.1.length≤40):=by
    rw[h1,obs]
    rcases h2 with ⟨rfl,h⟩ | rfl
    · exact .inr ⟨rfl,fun k hk a ha=>h k hk a (by simpa using ha) (Nat.zero_le _)⟩
    · exact .inl rfl
  simp only[tfd]
  by_cases h3:(200:Int)<(l.length:Int)
  · rw[if_pos h3]
    by_cases h4:(l.length:Int)≤4096
    · rw[if_pos h4];exact .inl rfl
    · rw[if_neg h4]
      rcases hz with hz | hz
      · exact .inl hz
      · exact .inr ⟨hz.1,.inr (by omega)⟩
  · rw[if_neg h3]
    rcases hz with hz | hz
    · exact .inl hz
    · refine .inr ⟨hz.1,.inl ⟨by omega,fun a ha => ?_⟩⟩
      obtain ⟨k,hk⟩:=List.getElem?_of_mem ha
      exact actW_wf (hw a ha) (hz.2 k (by have:=(List.getElem?_eq_some_iff.1 hk).1;omega) a hk)
def putF:List ActT→List UInt8
  | []=>[]
  | a::l=>txtA a++10::putF l
def allG (l:List ActT):Prop:=∀a∈l,good a
noncomputable instance (l:List ActT):Decidable (allG l):=Classical.propDecidable _
theorem allG_cons {a:ActT} {l:List ActT} (g:good a):allG (a::l)↔allG l:=⟨fun k x hx=>k x (List.mem_cons_of_mem _ hx),fun k x hx=>by
  rcases List.mem_cons.1 hx with rfl | hx
  · exact g
  · exact k x hx⟩
noncomputable def putR (b:List UInt8) (l:List ActT):(List UInt8×Unit) ⊕ (List UInt8×Int):=if allG l then .inl (b++putF l,()) else .inr ([],2)
theorem putR_good {a:ActT} {l:List ActT} (g:good a) (b:List UInt8):putR b (a::l)=putR (b++txtA a++[10]) l:=by
  unfold putR
  by_cases k:allG l
  · rw[if_pos k,if_pos ((allG_cons g).2 k)];simp[putF]
  · rw[if_neg k,if_neg (fun q=>k ((allG_cons g).1 q))]
theorem putR_bad {a:ActT} {l:List ActT} (g:¬good a) (b:List UInt8):putR b (a::l) = .inr ([],2):=if_neg (fun k=>g (k a List.mem_cons_self))
theorem putR_nil (b:List UInt8):putR b [] = .inl (b,()):=by
  unfold putR
  rw[if_pos (show allG [] from fun a h=>by cases h)]
  simp[putF]
theorem put_l (n:Nat) (l:List ActT) (hl:l.length≤5000) (hw:∀a∈l,ActW a):∀(rest pre:List ActT) (f:Nat) (b:List UInt8) (i:Int),l=pre++rest→i=pre.length→b.length≤4097*pre.length →
    script_Put_l5 (n+10) (f+rest.length+1) (b,l,(l.length:Int),i,())=some (putR b rest):=by
  intro rest
  induction rest with
  | nil =>
    intro pre f b i h hi hb
    rw[script_Put_l5_eq,putR_nil]
    simp only[tfd,if_neg (idxe h hi rfl)]
  | cons a rest ih =>
    intro pre f b i h hi hb
    have hlen:=congrArg List.length h
    simp at hlen
    have ha:=hw a (by rw[h];simp)
    rw[show f+(a::rest).length+1=(f+rest.length+1)+1 by simp;omega,script_Put_l5_eq]
    simp only[tfd,if_pos (idx h hi rfl)]
    rw[at_mid h hi,obs,idxw h hi (by omega),script_line n a ha,obs]
    by_cases g:good a
    · have hgl:=g.2.2
      have e10:(10:Int)=(((10:UInt8).toNat:Nat):Int):=rfl
      rw[if_pos g,putR_good g]
      simp only[decide_true,Bool.not_true,tff]
      rw[wst (n+9) b _ (by omega),obs,wb (n+9) _ e10 (by simp;omega),obs]
      exact ih (pre++[a]) f (b++txtA a++[10]) (i+1) (idxl h) (idxs hi) (by simp;omega)
    · rw[if_neg g,putR_bad g]
      rfl
theorem put5_l (n:Nat) (l:List ActT) (hl:l.length≤5000) (hw:∀a∈l,ActW a):∀(rest pre:List ActT) (f:Nat) (b:List UInt8) (i:Int),l=pre++rest→i=pre.length→b.length≤4097*pre.length →
    r29_Put_l5 (n+26) (f+rest.length+1) (b,l,(l.length:Int),i,())=some (putR b rest):=by
  intro rest
  induction rest with
  | nil =>
    intro pre f b i h hi hb
    rw[r29_Put_l5_eq,putR_nil]
    simp only[tfd,if_neg (idxe h hi rfl)]
  | cons a rest ih =>
    intro pre f b i h hi hb
    have hlen:=congrArg List.length h
    simp at hlen
    have ha:=hw a (by rw[h];simp)
    rw[show f+(a::rest).length+1=(f+rest.length+1)+1 by simp;omega,r29_Put_l5_eq]
    simp only[tfd,if_pos (idx h hi rfl)]
    rw[at_mid h hi,obs,idxw h hi (by omega),r29_line n a ha,obs]
    by_cases g:good a
    · have hgl:=g.2.2
      rw[if_pos g,putR_good g]
      simp only[decide_true,Bool.not_true,tff]
      rw[if_pos (by omega),if_pos (by simp;omega),show b++(txtA a++[10])=b++txtA a++[10] by simp]
      exact ih (pre++[a]) f (b++txtA a++[10]) (i+1) (idxl h) (idxs hi) (by simp;omega)
    · rw[if_neg g,putR_bad g]
      rfl
theorem put_both (n:Nat) (l:List ActT) (h:(l.length≤200∧∀a∈l,ActW a)∨4096<l.length):∃r:List UInt8×Int,script_Put (n+27) l=some r∧r29_Put (n+27) l=some r:=by
  rw[script_Put_eq,r29_Put_eq,tfd,tfd]
  rcases h with ⟨h1,h2⟩ | h
  · rw[if_neg (by omega),if_neg (by omega)]
    have e1:=put_l (n+16) l (by omega) h2 l [] (loopFuel-l.length-1) [] 0 rfl rfl (by simp)
    have e2:=put5_l n l (by omega) h2 l [] (loopFuel-l.length-1) [] 0 rfl rfl (by simp)
    rw[←lfu (by omega)] at e1 e2
    rw[show n+26=n+16+10 by omega,e1,show n+16+10=n+26 by omega,e2,obs,obs]
    cases hr:putR [] l with
    | inl y =>
      rw[selim_inl,selim_inl,strings_Builder_String_eq,obs]
      exact ⟨_,rfl,rfl⟩
    | inr z=>exact ⟨_,rfl,rfl⟩
  · rw[if_pos (by omega),if_pos (by omega)]
    exact ⟨_,rfl,rfl⟩
theorem split10:∀s:List UInt8,(10:UInt8) ∉ s∨∃a t,s=a++10::t∧(10:UInt8) ∉ a
  | [] => .inl (by simp)
  | c::s=>by
    by_cases hc:c=10
    · exact .inr ⟨[],s,by rw[hc];rfl,by simp⟩
    · rcases split10 s with h | ⟨a,t,h1,h2⟩
      · exact .inl (by simp;exact ⟨fun e=>hc e.symm,h⟩)
      · exact .inr ⟨c::a,t,by rw[h1];rfl,by simp;exact ⟨fun e=>hc e.symm,h2⟩⟩
theorem get_scan (n:Nat) (T:List UInt8) (hT:T.length≤1000000) (out:List ActT) (fr:Int):∀(a rest pre:List UInt8) (f:Nat) (i:Int),T=pre++(a++rest)→i=pre.length→(10:UInt8) ∉ a →
    r29_Get_l4 n (f+a.length) (T,out,fr,i,())=r29_Get_l4 n f (T,out,fr,i+(a.length:Int),()):=by
  intro a
  induction a with
  | nil=>intro rest pre f i h hi ha;simp
  | cons c a ih =>
    intro rest pre f i h hi ha
    have h':T=pre++c::(a++rest):=by rw[h];rfl
    have hc:¬c.toNat=10:=fun e=>ha (by rw[show c=10 from UInt8.toNat_inj.1 e];exact List.mem_cons_self)
    have q:decide (((c.toNat:Nat):Int)=10)=false:=by simp;omega
    rw[show f+(c::a).length=(f+a.length)+1 by simp;omega,r29_Get_l4_eq]
    simp only[tfd,if_pos (idx h' hi rfl)]
    rw[at_mid h' hi,obs,q,idxw h' hi (by omega)]
    simp only[Bool.not_false,tft]
    rw[ih rest (pre++[c]) f (i+1) (by rw[h];simp) (idxs hi) (fun k=>ha (List.mem_cons_of_mem _ k))]
    congr 5
    simp;omega
theorem get_both (n:Nat) (T:List UInt8) (hT:T.length≤40000):∀(k:Nat) (s pre:List UInt8) (f1 f2:Nat) (out:List ActT) (i:Int),s.length≤k→s.length≤f1→s.length≤f2→T=pre++s→i=pre.length→out.length≤pre.length→(∀a∈out,ActW a) →
    ∃R:List ActT×(Int×Int),obind (script_Get_l2 (n+27) (f1+1) (s,out,())) (fun r0=>selim (fun y1=>some (y1.1,((0:Int),(0:Int)))) (fun z2=>some z2) r0)=some R ∧
      obind (r29_Get_l4 (n+27) (f2+1) (T,out,i,i,())) (fun r0=>selim (fun y1=>if y1.2.2.1<(((List.length y1.1):Nat):Int) then (some ([],((IntKind.wrap .i64 ((((List.length y1.2.1):Nat):Int)+(1:Int))),(4:Int)))) else (some (y1.2.1,((0:Int),(0:Int))))) (fun z2=>some z2) r0)=some R∧R.1.length≤T.length∧∀a∈R.1,ActW a:=by
  intro k
  induction k with
  | zero =>
    intro s pre f1 f2 out i hs hf1 hf2 h hi ho hout
    have:s=[]:=List.eq_nil_of_length_eq_zero (by omega)
    subst this
    have hlen0:=congrArg List.length h
    rw[script_Get_l2_eq,r29_Get_l4_eq]
    simp only[tfd,if_neg (idxe h hi rfl)]
    have hl:¬(i<(T.length:Int)):=idxe h hi rfl
    refine ⟨(out,0,0),rfl,?_,by show out.length≤_;simp at hlen0;omega,hout⟩
    rw[obs,selim_inl,if_neg hl]
  | succ k ih =>
    intro s pre f1 f2 out i hs hf1 hf2 h hi ho hout
    have hlen:=congrArg List.length h
    simp at hlen
    by_cases hs0:s=[]
    · subst hs0
      rw[script_Get_l2_eq,r29_Get_l4_eq]
      simp only[tfd,if_neg (idxe h hi rfl)]
      have hl:¬(i<(T.length:Int)):=idxe h hi rfl
      refine ⟨(out,0,0),rfl,?_,by show out.length≤_;simp at hlen;omega,hout⟩
      rw[obs,selim_inl,if_neg hl]
    have hsl:0<s.length:=List.length_pos_iff.2 hs0
    have hne:(s==[])=false:=by
      cases s with
      | nil=>exact absurd rfl hs0
      | cons _ _=>rfl
    rw[script_Get_l2_eq,hne]
    simp only[Bool.not_false,tft]
    rw[cut_val (n+24) s [10] (by omega) (by simp) (by simp),obs]
    rcases split10 s with hno | ⟨a,t,hat,ha⟩
    · rw[cutV_no hno]
      obtain ⟨p,p1,_,_,_⟩:=parse_both n s (by omega)
      rw[p1,obs]
      have hsc:=get_scan (n+27) T (by omega) out i s [] pre (f2+1-s.length) i (by rw[h];simp) hi hno
      rw[show f2+1-s.length+s.length=f2+1 by omega] at hsc
      rw[hsc,show f2+1-s.length=(f2-s.length)+1 by omega,r29_Get_l4_eq]
      simp only[tif_ite,decide_eq_true_eq]
      rw[if_neg (show ¬(i+(s.length:Int)<(T.length:Int)) by omega),obs,selim_inl]
      rw[if_pos (show i<(T.length:Int) by omega)]
      refine ⟨([],IntKind.wrap .i64 (((out.length:Nat):Int)+1),4),?_,rfl,by simp,fun a ha=>by cases ha⟩
      by_cases hp:(!(decide (p.2=0)))=true
      · rw[if_pos hp];rfl
      · rw[if_neg hp,if_pos (by rfl)];rfl
    · have hcut:cutV s [10]=(a,t,true):=by
        rw[hat,show a++10::t=a++([10]++t) by simp];exact cutV_at ha
      have hsl2:=congrArg List.length hat
      simp at hsl2
      rw[hcut]
      obtain ⟨p,p1,p2,p3,_⟩:=parse_both n a (by omega)
      dsimp only
      rw[p1,obs]
      have hsc:=get_scan (n+27) T (by omega) out i a (10::t) pre (f2+1-a.length) i (by rw[h,hat]) hi ha
      rw[show f2+1-a.length+a.length=f2+1 by omega] at hsc
      have h':T=(pre++a)++10::t:=by rw[h,hat];simp
      have hi':i+(a.length:Int)=((pre++a).length:Int):=by simp;omega
      rw[hsc,show f2+1-a.length=(f2-a.length)+1 by omega,r29_Get_l4_eq]
      have hsub:List.drop (Int.toNat i) (List.take (Int.toNat (i+(a.length:Int))) T)=a:=by
        rw[hi',Int.toNat_natCast,h',List.take_left,hi,Int.toNat_natCast,List.drop_left]
      have c2:(decide ((((Int.toNat i):Nat):Int)≤i+(a.length:Int))&&decide (i+(a.length:Int)≤((T.length:Nat):Int)))=true:=by simp;omega
      rw[at_mid h' hi',hsub,c2]
      simp only[tif_ite,decide_eq_true_eq,obs]
      rw[if_pos (idx h' hi' rfl),if_neg (show ¬(!(decide ((((UInt8.toNat 10):Nat):Int)=(10:Int))))=true by decide),if_pos (show 0≤i by omega),if_pos trivial,p2,obs,idxw h' hi' (by omega)]
      by_cases hp:(!(decide (p.2=0)))=true
      · rw[if_pos hp,if_pos hp]
        exact ⟨_,rfl,rfl,by simp,fun a ha=>by cases ha⟩
      rw[if_neg hp,if_neg hp,if_neg (by decide)]
      by_cases h4:((out.length:Nat):Int)=4096
      · rw[if_pos h4,if_pos h4]
        exact ⟨_,rfl,rfl,by simp,fun a ha=>by cases ha⟩
      rw[if_neg h4,if_neg h4,if_pos (by omega),if_pos (by omega)]
      obtain ⟨f1,rfl⟩:∃g,f1=g+1:=⟨f1-1,by omega⟩
      obtain ⟨g2,hg2⟩:∃g,f2-a.length=g+1:=⟨f2-a.length-1,by omega⟩
      rw[hg2]
      exact ih t (pre++a++[10]) f1 g2 (out++[p.1]) (i+(a.length:Int)+1) (by omega) (by omega) (by omega) (by rw[h,hat];simp) (by simp;omega) (by simp;omega) (fun x hx=>by
        rcases List.mem_append.1 hx with hx | hx
        · exact hout x hx
        · rw[List.mem_singleton.1 hx];exact p3)
theorem sameA_l (n:Nat) (l:List ActT) (hl:l.length≤9223372036854775807) (hw:∀a∈l,ActW a):∀(rest pre:List ActT) (f:Nat) (i:Int),l=pre++rest→i=pre.length →
    r29_SameList_l4 (n+2) (f+rest.length+1) (l,l,(l.length:Int),i,())=some (.inl ()):=by
  intro rest
  induction rest with
  | nil =>
    intro pre f i h hi
    rw[r29_SameList_l4_eq]
    simp only[tfd,if_neg (idxe h hi rfl)]
  | cons a rest ih =>
    intro pre f i h hi
    have hlen:=congrArg List.length h
    simp at hlen
    have ha:=hw a (by rw[h];simp)
    rw[show f+(a::rest).length+1=(f+rest.length+1)+1 by simp;omega,r29_SameList_l4_eq]
    simp only[tfd,if_pos (idx h hi rfl)]
    rw[at_mid h hi,obs,obs,r29_same n a a ha.l,obs,w64 (x:=i+1) (by omega) (by omega),ih (pre++[a]) f (i+1) (idxl h) (idxs hi)]
    simp
theorem sameA (n:Nat) (l:List ActT) (hl:l.length≤9223372036854775807) (hw:∀a∈l,ActW a):r29_SameList (n+3) l l=some true:=by
  rw[r29_SameList_eq]
  have:=sameA_l n l hl hw l [] (loopFuel-l.length-1) 0 rfl rfl
  rw[show loopFuel-l.length-1+l.length+1=loopFuel by unfold loopFuel;omega] at this
  rw[this]
  simp
theorem get_same (n:Nat) (s:List UInt8) (hs:s.length≤40000):∃R:List ActT×(Int×Int),script_Get (n+28) s=some R∧r29_Get (n+28) s=some R∧R.1.length≤s.length∧∀a∈R.1,ActW a:=by
  rw[script_Get_eq,r29_Get_eq]
  have:=get_both n s hs s.length s [] (loopFuel-1) (loopFuel-1) [] 0 (Nat.le_refl _) (by unfold loopFuel;omega) (by unfold loopFuel;omega) rfl rfl (by simp) (fun a ha=>by cases ha)
  rw[show loopFuel-1+1=loopFuel by unfold loopFuel;omega] at this
  simp only[tfd]
  exact this
theorem scriptTexts_true (n:Nat) (hlv:l29_lives (n+39)=some true) (l:List ActT) (s:List UInt8) (hl:Wf (.slice tyAct) l) (hs:Wf .str s):l29_ScriptTexts (n+40) l s=some true:=by
  have hll:l.length≤9223372036854775807:=hl.1
  have hlw:∀a∈l,Wf tyAct a:=hl.2
  rw[l29_ScriptTexts_eq]
  rcases acts_small (n+37) l hll hlw with h | ⟨h,hl'⟩
  · rw[h,obs,tfd,if_pos rfl,hlv,obs]
  rw[h,obs,tfd,if_neg (by decide),tfd]
  by_cases hln:(32768:Int)<((s.length:Nat):Int)
  · rw[if_pos hln,hlv,obs]
  rw[if_neg hln]
  obtain ⟨r,r1,r2⟩:=put_both (n+12) l hl'
  obtain ⟨R,R1,R2,R4,R3⟩:=get_same (n+11) s (by omega)
  have hR:R.1.length≤9223372036854775807:=by
    omega
  rw[r1,obs,r2,obs,R1,obs,R2,obs,hlv,obs,sameA (n+36) R.1 hR R3,obs]
  simp[tif_ite]
end Go.Proofs.YtgcaeappeolhjaaGreatDoor
namespace Go.Proofs.YtgcaeappeolhjaaGreatDoor
open Go.Flat
theorem ob {α β:Type} {o:Option α} {x:α} {f:α→Option β} {r:Option β} (h:o=some x) (k:f x=r):obind o f=r:=by rw[h];exact k
theorem tt {α:Type} {b:Bool} {x y r:α} (h:b=true) (k:x=r):tif b x y=r:=by rw[h];exact k
end Go.Proofs.YtgcaeappeolhjaaGreatDoor
namespace Go.Proofs.YtgcaeappeolhjaaGreatDoor
open Go.Flat
set_option linter.unusedVariables false
theorem lvl29_lives_eq (n:Nat)  : l29_lives (n+1)  =
  obind (script_Put n (((1:Int),(((((97:UInt8)::[]),((120:UInt8)::((32:UInt8)::((121:UInt8)::[]))))::[]),(((7:Int),((18446744073709551615:Int),((5:Int),false))),((0:Int),((0:Int),((0:Int),(0:Int)))))))::(((1:Int),(((((97:UInt8)::[]),((120:UInt8)::((32:UInt8)::((121:UInt8)::[]))))::[]),(((8:Int),((0:Int),((0:Int),true))),((0:Int),((0:Int),((0:Int),(0:Int)))))))::(((5:Int),(((((97:UInt8)::[]),((120:UInt8)::((32:UInt8)::((121:UInt8)::[]))))::[]),(((0:Int),((0:Int),((0:Int),false))),((2:Int),((0:Int),((60:Int),(0:Int)))))))::(((3:Int),([],(((0:Int),((0:Int),((0:Int),false))),((0:Int),((0:Int),((0:Int),(0:Int)))))))::[]))))) fun r0 =>
  obind (script_Get n r0.1) fun r1 =>
  tif ((decide (((List.length r0.1)+8)≤9223372036854775807))) (
  obind (script_Get n (r0.1++((116:UInt8)::((105:UInt8)::((99:UInt8)::((107:UInt8)::((32:UInt8)::((48:UInt8)::((53:UInt8)::((10:UInt8)::[])))))))))) fun r2 =>
  obind (script_Parse n ((115:UInt8)::((119:UInt8)::((101:UInt8)::((101:UInt8)::((112:UInt8)::((32:UInt8)::[]))))))) fun r3 =>
  obind (script_Line n ((2:Int),([],(((0:Int),((0:Int),((0:Int),false))),((0:Int),((1:Int),((0:Int),(0:Int)))))))) fun r4 =>
  tif ((r0.1==(((119:UInt8)::((114:UInt8)::((105:UInt8)::((116:UInt8)::((101:UInt8)::((32:UInt8)::((49:UInt8)::((56:UInt8)::((52:UInt8)::((52:UInt8)::((54:UInt8)::((55:UInt8)::((52:UInt8)::((52:UInt8)::((48:UInt8)::((55:UInt8)::((51:UInt8)::((55:UInt8)::((48:UInt8)::((57:UInt8)::((53:UInt8)::((53:UInt8)::((49:UInt8)::((54:UInt8)::((49:UInt8)::((53:UInt8)::((32:UInt8)::((55:UInt8)::((32:UInt8)::((53:UInt8)::((32:UInt8)::((123:UInt8)::((97:UInt8)::((61:UInt8)::((34:UInt8)::((120:UInt8)::((32:UInt8)::((121:UInt8)::((34:UInt8)::((125:UInt8)::((10:UInt8)::((115:UInt8)::((116:UInt8)::[])))))))))))))))))))))))))))))))))))))))))))++((97:UInt8)::((108:UInt8)::((101:UInt8)::((32:UInt8)::((56:UInt8)::((32:UInt8)::((123:UInt8)::((97:UInt8)::((61:UInt8)::((34:UInt8)::((120:UInt8)::((32:UInt8)::((121:UInt8)::((34:UInt8)::((125:UInt8)::((10:UInt8)::((97:UInt8)::((115:UInt8)::((107:UInt8)::((32:UInt8)::((50:UInt8)::((32:UInt8)::((48:UInt8)::((32:UInt8)::((54:UInt8)::((48:UInt8)::((32:UInt8)::((123:UInt8)::((97:UInt8)::((61:UInt8)::((34:UInt8)::((120:UInt8)::((32:UInt8)::((121:UInt8)::((34:UInt8)::((125:UInt8)::((10:UInt8)::((115:UInt8)::((119:UInt8)::((101:UInt8)::((101:UInt8)::((112:UInt8)::((10:UInt8)::[])))))))))))))))))))))))))))))))))))))))))))))) (
  tif ((decide (r0.2=(0:Int)))) (
  tif ((decide ((((List.length r1.1):Nat):Int)=(4:Int)))) (
  obind (at? r1.1 (0:Int)) fun r5 =>
  obind (script_Same n r5 ((1:Int),(((((97:UInt8)::[]),((120:UInt8)::((32:UInt8)::((121:UInt8)::[]))))::[]),(((7:Int),((18446744073709551615:Int),((5:Int),false))),((0:Int),((0:Int),((0:Int),(0:Int)))))))) fun r6 =>
  tif (r6) (
  obind (at? r1.1 (1:Int)) fun r7 =>
  obind (script_Same n r7 ((1:Int),(((((97:UInt8)::[]),((120:UInt8)::((32:UInt8)::((121:UInt8)::[]))))::[]),(((8:Int),((0:Int),((0:Int),true))),((0:Int),((0:Int),((0:Int),(0:Int)))))))) fun r8 =>
  tif (r8) (
  obind (at? r1.1 (2:Int)) fun r9 =>
  obind (script_Same n r9 ((5:Int),(((((97:UInt8)::[]),((120:UInt8)::((32:UInt8)::((121:UInt8)::[]))))::[]),(((0:Int),((0:Int),((0:Int),false))),((2:Int),((0:Int),((60:Int),(0:Int)))))))) fun r10 =>
  tif (r10) (
  tif ((decide (r1.2.1=(0:Int)))) (
  tif ((decide (r1.2.2=(0:Int)))) (
  tif ((decide (r2.2.1=(5:Int)))) (
  tif ((decide (r2.2.2=(4:Int)))) (
  tif ((decide (r3.2=(4:Int)))) (
  tif ((decide (r4.2=(2:Int)))) (
  obind (script_Same n ((1:Int),(((((97:UInt8)::[]),((120:UInt8)::((32:UInt8)::((121:UInt8)::[]))))::[]),(((7:Int),((18446744073709551615:Int),((5:Int),false))),((0:Int),((0:Int),((0:Int),(0:Int))))))) ((1:Int),(((((97:UInt8)::[]),((120:UInt8)::((32:UInt8)::((121:UInt8)::[]))))::[]),(((8:Int),((0:Int),((0:Int),true))),((0:Int),((0:Int),((0:Int),(0:Int)))))))) fun r11 =>
  some (!r11)) (
  some false)) (
  some false)) (
  some false)) (
  some false)) (
  some false)) (
  some false)) (
  some false)) (
  some false)) (
  some false)) (
  some false)) (
  some false)) (
  some false)) (
  none):=by kernel_rfl
theorem lvl29_lives_0 (n:Nat):script_Put (n+39) [(1,([([97],[120,32,121])],((7,(18446744073709551615,(5,false))),(0,(0,(0,0)))))),(1,([([97],[120,32,121])],((8,(0,(0,true))),(0,(0,(0,0)))))),(5,([([97],[120,32,121])],((0,(0,(0,false))),(2,(0,(60,0)))))),(3,([],((0,(0,(0,false))),(0,(0,(0,0))))))]=some ([119,114,105,116,101,32,49,56,52,52,54,55,52,52,48,55,51,55,48,57,53,53,49,54,49,53,32,55,32,53,32,123,97,61,34,120,32,121,34,125,10,115,116,97,108,101,32,56,32,123,97,61,34,120,32,121,34,125,10,97,115,107,32,50,32,48,32,54,48,32,123,97,61,34,120,32,121,34,125,10,115,119,101,101,112,10],0):=by kernel_rfl
theorem lvl29_lives_1 (n:Nat):script_Get (n+39) [119,114,105,116,101,32,49,56,52,52,54,55,52,52,48,55,51,55,48,57,53,53,49,54,49,53,32,55,32,53,32,123,97,61,34,120,32,121,34,125,10,115,116,97,108,101,32,56,32,123,97,61,34,120,32,121,34,125,10,97,115,107,32,50,32,48,32,54,48,32,123,97,61,34,120,32,121,34,125,10,115,119,101,101,112,10]=some ([(1,([([97],[120,32,121])],((7,(18446744073709551615,(5,false))),(0,(0,(0,0)))))),(1,([([97],[120,32,121])],((8,(0,(0,true))),(0,(0,(0,0)))))),(5,([([97],[120,32,121])],((0,(0,(0,false))),(2,(0,(60,0)))))),(3,([],((0,(0,(0,false))),(0,(0,(0,0))))))],(0,0)):=by kernel_rfl
theorem lvl29_lives_2 (n:Nat):script_Get (n+39) [119,114,105,116,101,32,49,56,52,52,54,55,52,52,48,55,51,55,48,57,53,53,49,54,49,53,32,55,32,53,32,123,97,61,34,120,32,121,34,125,10,115,116,97,108,101,32,56,32,123,97,61,34,120,32,121,34,125,10,97,115,107,32,50,32,48,32,54,48,32,123,97,61,34,120,32,121,34,125,10,115,119,101,101,112,10,116,105,99,107,32,48,53,10]=some ([],(5,4)):=by kernel_rfl
theorem lvl29_lives_3 (n:Nat):script_Parse (n+39) [115,119,101,101,112,32]=some ((0,([],((0,(0,(0,false))),(0,(0,(0,0)))))),4):=by kernel_rfl
theorem lvl29_lives_4 (n:Nat):script_Line (n+39) (2,([],((0,(0,(0,false))),(0,(1,(0,0))))))=some ([],2):=by kernel_rfl
theorem lvl29_lives_5 (n:Nat):script_Same (n+39) (1,([([97],[120,32,121])],((7,(18446744073709551615,(5,false))),(0,(0,(0,0)))))) (1,([([97],[120,32,121])],((7,(18446744073709551615,(5,false))),(0,(0,(0,0))))))=some true:=by kernel_rfl
theorem lvl29_lives_6 (n:Nat):script_Same (n+39) (1,([([97],[120,32,121])],((8,(0,(0,true))),(0,(0,(0,0)))))) (1,([([97],[120,32,121])],((8,(0,(0,true))),(0,(0,(0,0))))))=some true:=by kernel_rfl
theorem lvl29_lives_7 (n:Nat):script_Same (n+39) (5,([([97],[120,32,121])],((0,(0,(0,false))),(2,(0,(60,0)))))) (5,([([97],[120,32,121])],((0,(0,(0,false))),(2,(0,(60,0))))))=some true:=by kernel_rfl
theorem lvl29_lives_8 (n:Nat):script_Same (n+39) (1,([([97],[120,32,121])],((7,(18446744073709551615,(5,false))),(0,(0,(0,0)))))) (1,([([97],[120,32,121])],((8,(0,(0,true))),(0,(0,(0,0))))))=some false:=by kernel_rfl
theorem l29_lives_true (n:Nat):l29_lives (n+40)=some true:=by
  rw[lvl29_lives_eq]
  refine ob (lvl29_lives_0 n) ?_
  refine ob (lvl29_lives_1 n) ?_
  refine tt (by kernel_rfl) ?_
  refine ob (lvl29_lives_2 n) ?_
  refine ob (lvl29_lives_3 n) ?_
  refine ob (lvl29_lives_4 n) ?_
  refine tt (by kernel_rfl) ?_
  refine tt (by kernel_rfl) ?_
  refine tt (by kernel_rfl) ?_
  refine ob (x:=(1,([([97],[120,32,121])],((7,(18446744073709551615,(5,false))),(0,(0,(0,0))))))) (by kernel_rfl) ?_
  refine ob (lvl29_lives_5 n) ?_
  refine tt (by kernel_rfl) ?_
  refine ob (x:=(1,([([97],[120,32,121])],((8,(0,(0,true))),(0,(0,(0,0))))))) (by kernel_rfl) ?_
  refine ob (lvl29_lives_6 n) ?_
  refine tt (by kernel_rfl) ?_
  refine ob (x:=(5,([([97],[120,32,121])],((0,(0,(0,false))),(2,(0,(60,0))))))) (by kernel_rfl) ?_
  refine ob (lvl29_lives_7 n) ?_
  refine tt (by kernel_rfl) ?_
  refine tt (by kernel_rfl) ?_
  refine tt (by kernel_rfl) ?_
  refine tt (by kernel_rfl) ?_
  refine tt (by kernel_rfl) ?_
  refine tt (by kernel_rfl) ?_
  refine tt (by kernel_rfl) ?_
  refine ob (lvl29_lives_8 n) ?_
  kernel_rfl
end Go.Proofs.YtgcaeappeolhjaaGreatDoor
namespace Go.Proofs.YtgcaeappeolhjaaGreatDoor
open Go.Flat Go.Plim
theorem scriptLines_law (a b:ActT) (line:List UInt8) (ha:Wf tyAct a) (hb:Wf tyAct b):l29_ScriptLines 41 a b line=some true:=scriptLines_true 1 (l29_lives_true 0) a b line ha hb
theorem scriptTexts_law (l:List ActT) (s:List UInt8) (hl:Wf (.slice tyAct) l) (hs:Wf .str s):l29_ScriptTexts 41 l s=some true:=scriptTexts_true 1 (l29_lives_true 0) l s hl hs
end Go.Proofs.YtgcaeappeolhjaaGreatDoor
