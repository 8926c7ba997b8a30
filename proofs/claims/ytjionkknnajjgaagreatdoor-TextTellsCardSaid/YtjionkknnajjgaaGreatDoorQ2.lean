/-
  Plain proofs about the functions of this seat, part 2 of 2.
-/
import Derived.Test.YtjionkknnajjgaaGreatDoorQ1
import Derived.Test.YtjionkknnajjgaaGreatDoorFlatM4
import Derived.Test.YtjionkknnajjgaaGreatDoorTr
namespace Go.Proofs.YtjionkknnajjgaaGreatDoor
open Go.Flat Go.Plim
set_option linter.unusedVariables false
set_option linter.unusedSimpArgs false
theorem same5_l (n:Nat) (a b:List Lab) (hL:a.length≤9223372036854775807):∀(ra rb pa pb:List Lab) (f:Nat) (ix len:Int),a=pa++ra→b=pb++rb→pa.length=pb.length→ra.length=rb.length→ix=pa.length→len=a.length→ra.length<f →
    r05_Same_l4 n f (a,b,len,ix,())=some (if ra=rb then .inl () else .inr false):=by
  intro ra
  induction ra with
  | nil =>
    intro rb pa pb f ix len ha hb hp hr hi hn hf
    obtain ⟨f,rfl⟩:∃g,f=g+1:=⟨f-1,by simp at hf;omega⟩
    have e:rb=[]:=List.length_eq_zero_iff.1 (by simpa using hr.symm)
    subst e
    rw[r05_Same_l4_eq,decide_eq_false (idxe ha hi hn),tff,if_pos rfl]
  | cons x ra ih =>
    intro rb pa pb f ix len ha hb hp hr hi hn hf
    obtain ⟨f,rfl⟩:∃g,f=g+1:=⟨f-1,by simp at hf;omega⟩
    cases rb with
    | nil=>simp at hr
    | cons y rb =>
      have hlen:=congrArg List.length ha
      simp at hlen
      rw[r05_Same_l4_eq,decide_eq_true (idx ha hi hn),tft,at_mid ha hi,at_mid hb (by omega)]
      simp only[obs,labEq]
      rw[w64 (x:=ix+1) (by omega) (by omega)]
      by_cases h:x=y
      · subst h
        simp only[decide_true,Bool.not_true,tff]
        rw[ih rb (pa++[x]) (pb++[x]) f (ix+1) len (idxl ha) (idxl hb) (by simp;omega) (by simpa using hr) (idxs hi) hn (by simp at hf;omega)]
        simp
      · rw[if_neg (by simp[h])]
        simp only[decide_eq_false h,Bool.not_false,tft]
theorem same5 (n:Nat) (a b:List Lab) (hL:a.length≤9223372036854775807):r05_Same (n+1) a b=some (decide (a=b)):=by
  rw[r05_Same_eq]
  by_cases h:a.length=b.length
  · rw[decide_eq_true (show ((a.length:Nat):Int)=(b.length:Nat) by omega)]
    simp only[Bool.not_true,tff]
    rw[same5_l n a b hL a b [] [] loopFuel 0 _ rfl rfl rfl h rfl rfl (by unfold loopFuel;omega)]
    by_cases h':a=b
    · rw[if_pos h',decide_eq_true h'];rfl
    · rw[if_neg h',decide_eq_false h'];rfl
  · rw[decide_eq_false (show ¬((a.length:Nat):Int)=(b.length:Nat) by omega),decide_eq_false (fun k:a=b=>h (by rw[k]))]
    rfl
theorem sameS_l (n:Nat) (a b:List Lab) (hL:a.length≤9223372036854775807):∀(ra rb pa pb:List Lab) (f:Nat) (ix len:Int),a=pa++ra→b=pb++rb→pa.length=pb.length→ra.length=rb.length→ix=pa.length→len=a.length→ra.length<f →
    sl_Equal_Label_l4 n f (a,b,len,ix,())=some (if ra=rb then .inl () else .inr false):=by
  intro ra
  induction ra with
  | nil =>
    intro rb pa pb f ix len ha hb hp hr hi hn hf
    obtain ⟨f,rfl⟩:∃g,f=g+1:=⟨f-1,by simp at hf;omega⟩
    have e:rb=[]:=List.length_eq_zero_iff.1 (by simpa using hr.symm)
    subst e
    rw[sl_Equal_Label_l4_eq,decide_eq_false (idxe ha hi hn),tff,if_pos rfl]
  | cons x ra ih =>
    intro rb pa pb f ix len ha hb hp hr hi hn hf
    obtain ⟨f,rfl⟩:∃g,f=g+1:=⟨f-1,by simp at hf;omega⟩
    cases rb with
    | nil=>simp at hr
    | cons y rb =>
      have hlen:=congrArg List.length ha
      simp at hlen
      rw[sl_Equal_Label_l4_eq,decide_eq_true (idx ha hi hn),tft,at_mid ha hi,at_mid hb (by omega)]
      simp only[obs,labEq]
      rw[w64 (x:=ix+1) (by omega) (by omega)]
      by_cases h:x=y
      · subst h
        simp only[decide_true,Bool.not_true,tff]
        rw[ih rb (pa++[x]) (pb++[x]) f (ix+1) len (idxl ha) (idxl hb) (by simp;omega) (by simpa using hr) (idxs hi) hn (by simp at hf;omega)]
        simp
      · rw[if_neg (by simp[h])]
        simp only[decide_eq_false h,Bool.not_false,tft]
theorem sameS (n:Nat) (a b:List Lab) (hL:a.length≤9223372036854775807):sl_Equal_Label (n+1) a b=some (decide (a=b)):=by
  rw[sl_Equal_Label_eq]
  by_cases h:a.length=b.length
  · rw[decide_eq_true (show ((a.length:Nat):Int)=(b.length:Nat) by omega)]
    simp only[Bool.not_true,tff]
    rw[sameS_l n a b hL a b [] [] loopFuel 0 _ rfl rfl rfl h rfl rfl (by unfold loopFuel;omega)]
    by_cases h':a=b
    · rw[if_pos h',decide_eq_true h'];rfl
    · rw[if_neg h',decide_eq_false h'];rfl
  · rw[decide_eq_false (show ¬((a.length:Nat):Int)=(b.length:Nat) by omega),decide_eq_false (fun k:a=b=>h (by rw[k]))]
    rfl
abbrev ActT:=Int×(List Lab×(Ev×(Int×(Int×(Int×Int)))))
def nt (i:Int):List UInt8:=toB (itoI i)
theorem nt_len {i:Int} (h:I64 i):(nt i).length≤21:=by
  have:=itoI_len h.1 h.2
  unfold nt
  rw[toB_length];exact this
structure ActW (a:ActT):Prop where
  l:a.2.1.length≤1000000
  e:EvW a.2.2.1
  t:I64 a.2.2.2.1
  fa:I64 a.2.2.2.2.1
  fb:I64 a.2.2.2.2.2.1
  fn:I64 a.2.2.2.2.2.2
def told (a:ActT):ActT :=
  if a.1=1 then (1,a.2.1,(if a.2.2.1.2.2.2=true then (a.2.2.1.1,0,0,true) else a.2.2.1),0,0,0,0)
  else if a.1=5 then (5,a.2.1,e0,a.2.2.2.1,a.2.2.2.2.1,a.2.2.2.2.2.1,0)
  else if a.1=6 then (6,[],e0,a.2.2.2.1,a.2.2.2.2.1,a.2.2.2.2.2.1,0)
  else if a.1=2∨a.1=8∨a.1=9 then (a.1,[],e0,0,0,0,a.2.2.2.2.2.2)
  else (a.1,[],e0,0,0,0,0)
def wTick:List UInt8:=[116,105,99,107]
def wArm:List UInt8:=[97,114,109]
def wLoad:List UInt8:=[108,111,97,100]
def wSweep:List UInt8:=[115,119,101,101,112]
def wFlush:List UInt8:=[102,108,117,115,104]
def wDump:List UInt8:=[100,117,109,112]
def wWrite:List UInt8:=[119,114,105,116,101]
def wStale:List UInt8:=[115,116,97,108,101]
def wAsk:List UInt8:=[97,115,107]
def wTotal:List UInt8:=[116,111,116,97,108]
def okK (a:ActT):Prop :=
  if a.1=1 then (0≤a.2.2.1.1∧(a.2.2.1.2.2.2=true∨0≤a.2.2.1.2.2.1))∧LabOk a.2.1
  else if a.1=5 then (0≤a.2.2.2.1∧0≤a.2.2.2.2.1∧0≤a.2.2.2.2.2.1)∧LabOk a.2.1
  else if a.1=6 then 0≤a.2.2.2.1∧0≤a.2.2.2.2.1∧0≤a.2.2.2.2.2.1
  else if a.1=2∨a.1=8∨a.1=9 then 0≤a.2.2.2.2.2.2
  else a.1=3∨a.1=4∨a.1=7
def txtA (a:ActT):List UInt8 :=
  if a.1=1 then (if a.2.2.1.2.2.2=true then wStale++32::nt a.2.2.1.1 else wWrite++32::(toB (decI a.2.2.1.2.1.toNat)++32::(nt a.2.2.1.1++32::nt a.2.2.1.2.2.1)))++32::textL a.2.1
  else if a.1=5 then wAsk++32::(nt a.2.2.2.1++32::(nt a.2.2.2.2.1++32::(nt a.2.2.2.2.2.1++32::textL a.2.1)))
  else if a.1=6 then wTotal++32::(nt a.2.2.2.1++32::(nt a.2.2.2.2.1++32::nt a.2.2.2.2.2.1))
  else if a.1=2 then wTick++32::nt a.2.2.2.2.2.2
  else if a.1=8 then wArm++32::nt a.2.2.2.2.2.2
  else if a.1=9 then wLoad++32::nt a.2.2.2.2.2.2
  else if a.1=3 then wSweep
  else if a.1=4 then wFlush
  else if a.1=7 then wDump
  else []
def good (a:ActT):Prop:=okK a∧told a=a∧(txtA a).length≤4096
theorem dec_len {v:Int} (h0:0≤v) (h1:v≤18446744073709551615):(toB (decI v.toNat)).length≤20:=by
  unfold decI
  rw[toB_length,dgs_len]
  exact ndg_le (by omega)
theorem nt_nn {x:Int} (h:0≤x):nt x=toB (decI x.toNat):=by
  unfold nt itoI
  rw[if_neg (by omega)]
theorem parseM_app (M:Nat) (r:List UInt8):∀(l:List UInt8) (acc:Nat),Lib.parseUintM M acc (l++r)=match Lib.parseUintM M acc l with | .ok a=>Lib.parseUintM M a r | Lib.NumEnd.syntax=>Lib.NumEnd.syntax | .range => .range
  | [],acc=>rfl
  | c::l,acc=>by
    simp only[List.cons_append,Lib.parseUintM]
    split
    · split
      · rfl
      split
      · rfl
      · exact parseM_app M r l _
    · rfl
theorem parseM_le (M:Nat):∀(l:List UInt8) (acc u:Nat),acc≤M→Lib.parseUintM M acc l = .ok u→u≤M
  | [],acc,u,h,e=>by
    unfold Lib.parseUintM at e
    injection e with e;omega
  | c::l,acc,u,h,e=>by
    unfold Lib.parseUintM at e
    split at e
    · split at e
      · cases e
      split at e
      · cases e
      · exact parseM_le M l _ u (by omega) e
    · cases e
theorem parseM_dec (M:Nat) (hM:M≤18446744073709551615):∀(k u:Nat),u≤k→u≤M→Lib.parseUintM M 0 (toB (decI u)) = .ok u:=by
  intro k
  induction k with
  | zero =>
    intro u hk hu
    have:u=0:=by omega
    subst this
    rw[decI_small (by omega)]
    show Lib.parseUintM M 0 [48]=_
    unfold Lib.parseUintM
    rw[if_pos (by decide),if_neg (by omega),if_neg (by simp)]
    rfl
  | succ k ih =>
    intro u hk hu
    have dig:∀d:Nat,d<10→(UInt8.ofNat (48+d)).toNat=48+d:=fun d hd=>by rw[UInt8.toNat_ofNat'];omega
    by_cases h:u<10
    · rw[decI_small h]
      show Lib.parseUintM M 0 [UInt8.ofNat (Int.toNat ((48+u:Nat):Int))]=_
      rw[Int.toNat_natCast]
      unfold Lib.parseUintM
      rw[dig u h,if_pos (by omega),if_neg (by omega),if_neg (by omega)]
      unfold Lib.parseUintM
      congr 1
      omega
    · rw[decI_step (by omega) (by omega),toB_append,parseM_app,ih (u / 10) (by omega) (by omega)]
      show Lib.parseUintM M (u / 10) [UInt8.ofNat (Int.toNat ((48+u % 10:Nat):Int))]=_
      rw[Int.toNat_natCast]
      unfold Lib.parseUintM
      rw[dig (u % 10) (by omega),if_pos (by omega),if_neg (by omega),if_neg (by omega)]
      unfold Lib.parseUintM
      congr 1
      omega
theorem decI_ne (u:Nat):toB (decI u)≠[]:=by
  intro h
  have:=congrArg List.length h
  unfold decI at this
  rw[toB_length,dgs_len] at this
  have:=ndg_pos u
  simp at *;omega
theorem puV_dec (B:Nat) (hB:2^B-1≤18446744073709551615) {u:Nat} (hu:u≤2^B-1):puV B (toB (decI u))=((u:Int),false):=by
  unfold puV Lib.parseUintB
  rw[if_neg (decI_ne u),parseM_dec (2^B-1) hB u u (Nat.le_refl _) hu]
theorem puV_range (B:Nat) (l:List UInt8):0≤(puV B l).1∧(puV B l).1≤((2^B-1:Nat):Int):=by
  unfold puV Lib.parseUintB
  split
  · rename_i u h
    split at h
    · cases h
    · have:=parseM_le (2^B-1) l 0 u (by omega) h
      exact ⟨by simp,by show (u:Int)≤_;omega⟩
  · exact ⟨by simp,by simp⟩
  · exact ⟨by simp,by simp⟩
theorem I64_wrap (x:Int):I64 (IntKind.wrap .i64 x):=by
  unfold I64
  rw[IntKind.wrap_i64]
  omega
def rs (s:List UInt8):List UInt8:=(cutV s [32]).2.1
theorem dec_no (u:Nat) {c:UInt8} (hc:c.toNat<48):c ∉ toB (decI u):=by
  intro h
  simp only[toB,List.mem_map] at h
  obtain ⟨x,hx,he⟩:=h
  have hr:=decI_range u x hx
  have:=congrArg UInt8.toNat he
  rw[UInt8.toNat_ofNat'] at this
  omega
theorem labs_small_l (n:Nat) (l:List Lab) (hl:l.length≤9223372036854775807):∀(k f i:Nat),40-i=k→i≤40→i≤l.length →
    ∃z:Unit ⊕ Int,l05_Small_l2 n (f+k+1) (l,(l.length:Int),(i:Int),())=some z∧((z = .inl ()∧l.length≤40)∨z = .inr 0):=by
  intro k
  induction k with
  | zero =>
    intro f i h hi hil
    rw[l05_Small_l2_eq]
    simp only[tif_ite,decide_eq_true_eq]
    by_cases h1:(i:Int)<(l.length:Int)
    · have hx:at? l (i:Int)=some l[i]:=by simp[at?]
      rw[if_pos h1,hx,obs,if_pos (by omega)]
      exact ⟨_,rfl,.inr rfl⟩
    · rw[if_neg h1]
      exact ⟨_,rfl,.inl ⟨rfl,by omega⟩⟩
  | succ k ih =>
    intro f i h hi hil
    rw[show f+(k+1)+1=(f+k+1)+1 by omega,l05_Small_l2_eq]
    simp only[tif_ite,decide_eq_true_eq]
    by_cases h1:(i:Int)<(l.length:Int)
    · have hx:at? l (i:Int)=some l[i]:=by simp[at?]
      rw[if_pos h1,hx,obs,if_neg (by omega)]
      by_cases h2:(1000:Int)<((l[i].1.length:Nat):Int)
      · rw[if_pos h2];exact ⟨_,rfl,.inr rfl⟩
      rw[if_neg h2]
      by_cases h3:(1000:Int)<((l[i].2.length:Nat):Int)
      · rw[if_pos h3];exact ⟨_,rfl,.inr rfl⟩
      rw[if_neg h3,w64 (by omega) (by omega),show (i:Int)+1=((i+1:Nat):Int) by omega]
      exact ih f (i+1) (by omega) (by omega) (by omega)
    · rw[if_neg h1]
      exact ⟨_,rfl,.inl ⟨rfl,by omega⟩⟩
theorem labs_small (n:Nat) (l:List Lab) (hl:l.length≤9223372036854775807):l05_Small (n+1) l=some 0∨(l05_Small (n+1) l=some 1∧l.length≤40):=by
  rw[l05_Small_eq]
  obtain ⟨z,h1,h2⟩:=labs_small_l n l hl 40 (loopFuel-41) 0 rfl (by omega) (by omega)
  rw[show loopFuel-41+40+1=loopFuel by unfold loopFuel;omega] at h1
  have h1':l05_Small_l2 n loopFuel (l,(l.length:Int),0,())=some z:=h1
  rw[h1',obs]
  rcases h2 with ⟨rfl,h⟩ | rfl
  · exact .inr ⟨rfl,h⟩
  · exact .inl rfl
theorem event_check (n:Nat) {e:Ev} (h:EvW e):event_Check (n+1) e=some (if EvOk e then 0 else 2):=by
  obtain ⟨_,hv,_⟩:=h
  rw[event_Check_eq]
  simp only[tfd]
  by_cases h1:e.1<0
  · rw[if_pos h1,if_neg (fun k=>by have:=k.t0;omega)]
  by_cases h2:(35184372088832:Int)≤e.1
  · rw[if_neg h1,if_pos h2,if_neg (fun k=>by have:=k.t1;omega)]
  by_cases h3:e.2.2.1<0
  · rw[if_neg h1,if_neg h2,if_pos h3,if_neg (fun k=>by have:=k.c0;omega)]
  by_cases h4:e.1<e.2.2.1
  · rw[if_neg h1,if_neg h2,if_neg h3,if_pos h4,if_neg (fun k=>by have:=k.c1;omega)]
  rw[if_neg h1,if_neg h2,if_neg h3,if_neg h4]
  cases h5:e.2.2.2 with
  | false =>
    rw[tff,if_pos ⟨by omega,by omega,hv.1,hv.2,by omega,by omega,fun k=>by rw[h5] at k;cases k⟩]
  | true =>
    rw[tft]
    by_cases h6:e.2.1=0∧e.2.2.1=0
    · rw[if_pos ⟨by omega,by omega,hv.1,hv.2,by omega,by omega,fun _=>h6⟩]
      simp[h6]
    · rw[if_neg (fun k=>h6 (k.st h5))]
      by_cases h7:e.2.1=0
      · have h8:¬(e.2.2.1=0):=fun k=>h6 ⟨h7,k⟩
        simp[h7,h8]
      · simp[h7]
theorem r07_check (n:Nat) {e:Ev} (h:EvW e):r07_Check (n+1) e=some (if EvOk e then 0 else 2):=by
  obtain ⟨_,hv,_⟩:=h
  rw[r07_Check_eq]
  simp only[tfd,tfn]
  by_cases h1:e.1<0
  · rw[if_pos h1,if_neg (fun k=>by have:=k.t0;omega)]
  by_cases h2:(35184372088832:Int)≤e.1
  · rw[if_neg h1,if_pos h2,if_neg (fun k=>by have:=k.t1;omega)]
  by_cases h3:e.2.2.1<0
  · rw[if_neg h1,if_neg h2,if_pos h3,if_neg (fun k=>by have:=k.c0;omega)]
  by_cases h4:e.1<e.2.2.1
  · rw[if_neg h1,if_neg h2,if_neg h3,if_pos h4,if_neg (fun k=>by have:=k.c1;omega)]
  rw[if_neg h1,if_neg h2,if_neg h3,if_neg h4]
  cases h5:e.2.2.2 with
  | false =>
    rw[tff,if_pos ⟨by omega,by omega,hv.1,hv.2,by omega,by omega,fun k=>by rw[h5] at k;cases k⟩]
  | true =>
    rw[tft]
    by_cases h6:e.2.1=0∧e.2.2.1=0
    · rw[if_pos h6.1,if_pos h6.2,if_pos ⟨by omega,by omega,hv.1,hv.2,by omega,by omega,fun _=>h6⟩]
    · by_cases h7:e.2.1=0
      · have h8:¬(e.2.2.1=0):=fun k=>h6 ⟨h7,k⟩
        rw[if_pos h7,if_neg h8,if_neg (fun k=>h6 (k.st h5))]
      · rw[if_neg h7,if_neg (fun k=>h6 (k.st h5))]
abbrev RowT:=List Lab×Ev
def evT (e:Ev):List UInt8 :=
  32::((if e.2.2.2=true then wStale else toB (decI e.2.1.toNat))++32::(nt e.1++(if 0<e.2.2.1 then 32::99::nt e.2.2.1 else [])))
def lineT (r:RowT):List UInt8:=textL r.1++evT r.2
theorem evT_len {e:Ev} (h:EvW e):(evT e).length≤100:=by
  have h1:=nt_len h.t
  have h2:=nt_len h.c
  have h3:=dec_len h.v.1 h.v.2
  unfold evT
  have h4:wStale.length=5:=rfl
  split<;>split<;>simp<;>omega
theorem ti_len (s:List UInt8):(List.map (fun y=>(((UInt8.toNat y):Nat):Int)) s).length=s.length:=by simp
theorem toB_map (s:List UInt8):toB (List.map (fun y=>(((UInt8.toNat y):Nat):Int)) s)=s:=toB_bytesI s
theorem toB_ap (a b:List Int):toB (a++b)=toB a++toB b:=by simp[toB]
theorem appendU2 (n:Nat) (dst:List Int) (hd:dst.length≤1000000) {v:Int} (h0:0≤v) (h1:v≤18446744073709551615):strconv_AppendUint (n+4) dst v 10=some (dst++decI v.toNat):=by
  have e:v=((v.toNat:Nat):Int):=by omega
  have:=appendUint_val n (u:=v.toNat) (by omega) dst hd
  rw[←e] at this
  rw[strconv_AppendUint_eq,this,obs]
theorem decI_len {v:Int} (h0:0≤v) (h1:v≤18446744073709551615):(decI v.toNat).length≤20:=by
  have:=dec_len h0 h1
  rw[toB_length] at this
  exact this
theorem toBm (l:List Int):List.map (fun y=>UInt8.ofNat (Int.toNat y)) l=toB l:=rfl
theorem text_line (n:Nat) (r:RowT) (hw:EvW r.2):text_Line (n+8) r=some (if LabOk r.1 then (if EvOk r.2 then (lineT r,0) else ([],2)) else ([],8)):=by
  rw[text_Line_eq,label_text n r.1,obs]
  by_cases hl:LabOk r.1
  · rw[if_pos hl,if_pos hl]
    have hlen:=textL_len hl
    simp only[tfd,decide_true,Bool.not_true,tff]
    rw[event_check (n+6) hw,obs]
    by_cases he:EvOk r.2
    · rw[if_pos he,if_pos he]
      have hT:=hw.t
      have hV:=hw.v
      have hC:=hw.c
      have hTl:=itoI_len hT.1 hT.2
      have hCl:=itoI_len hC.1 hC.2
      obtain ⟨L,hL⟩:∃L,L=List.map (fun y=>(((UInt8.toNat y):Nat):Int)) (textL r.1):=⟨_,rfl⟩
      have hLb:toB L=textL r.1:=by rw[hL,toB_map]
      have hLl:L.length≤10000:=by rw[hL,ti_len];exact hlen
      rw[if_pos (by omega)]
      simp only[←hL]
      have hd:=decI_len hV.1 hV.2
      have c1:(L.length+1)*1≤140737488355328:=by omega
      rw[if_pos c1]
      cases hst:r.2.2.2.2 with
      | true =>
        obtain ⟨hv0,hc0⟩:=he.st hst
        rw[tft,if_pos (by simp;omega),if_pos (by simp;omega),appendInt_val (n+2) hT.1 hT.2 _ (by simp;omega),obs,hc0,if_neg (by omega)]
        simp only[toBm,toB_ap,hLb]
        simp[lineT,evT,hst,hc0,nt,toB,wStale]
      | false =>
        rw[tff,appendU2 (n+3) _ (by simp;omega) hV.1 hV.2,obs,if_pos (by simp;omega),appendInt_val (n+2) hT.1 hT.2 _ (by simp;omega),obs]
        by_cases hc:0<r.2.2.2.1
        · rw[if_pos hc,if_pos (by simp;omega),if_pos (by simp;omega),appendInt_val (n+2) hC.1 hC.2 _ (by simp;omega),obs]
          simp only[toBm,toB_ap,hLb]
          simp[lineT,evT,hst,hc,nt,toB]
        · rw[if_neg hc]
          simp only[toBm,toB_ap,hLb]
          simp[lineT,evT,hst,hc,nt,toB]
    · rw[if_neg he,if_neg he]
      rfl
  · rw[if_neg hl,if_neg hl]
    rfl
theorem splitAt1 (c:UInt8):∀s:List UInt8,c ∉ s∨∃a t,s=a++c::t∧c ∉ a
  | [] => .inl (by simp)
  | d::s=>by
    by_cases hc:d=c
    · exact .inr ⟨[],s,by rw[hc];rfl,by simp⟩
    · rcases splitAt1 c s with h | ⟨a,t,h1,h2⟩
      · exact .inl (by simp;exact ⟨fun e=>hc e.symm,h⟩)
      · exact .inr ⟨d::a,t,by rw[h1];rfl,by simp;exact ⟨fun e=>hc e.symm,h2⟩⟩
def splC (c:UInt8):List UInt8→List (List UInt8)
  | []=>[[]]
  | d::t=>if d=c then []::splC c t else match splC c t with | []=>[[d]] | w::ws=>(d::w)::ws
theorem splC_cons (c d:UInt8) (t:List UInt8):splC c (d::t)=if d=c then []::splC c t else match splC c t with | []=>[[d]] | w::ws=>(d::w)::ws:=by rw[splC]
theorem splC_no {c:UInt8}:∀ {s:List UInt8},c ∉ s→splC c s=[s]
  | [],_=>rfl
  | d::s,h=>by
    have hd:¬d=c:=fun e=>h (by rw[e];exact List.mem_cons_self)
    rw[splC_cons,if_neg hd,splC_no (s:=s) fun k=>h (List.mem_cons_of_mem _ k)]
theorem splC_at {c:UInt8} (t:List UInt8):∀ {a:List UInt8},c ∉ a→splC c (a++c::t)=a::splC c t
  | [],_=>by
    show splC c (c::t)=_
    rw[splC_cons,if_pos rfl]
  | d::a,h=>by
    have hd:¬d=c:=fun e=>h (by rw[e];exact List.mem_cons_self)
    show splC c (d::(a++c::t))=_
    rw[splC_cons,if_neg hd,splC_at t (a:=a) fun k=>h (List.mem_cons_of_mem _ k)]
theorem count_no {c:UInt8} {s:List UInt8} (h:c ∉ s):Lib.count s [c]=0:=Lib.count_miss (index_no rfl h)
theorem count_at {c:UInt8} {a:List UInt8} (t:List UInt8) (h:c ∉ a):Lib.count (a++c::t) [c]=1+Lib.count t [c]:=by
  have:=Lib.count_hit (s:=a++c::t) (sub:=[c]) (by simp) (index_at (sub:=[c]) (r:=[]) (a:=a) (t:=t) rfl h)
  rw[this]
  congr 2
  rw[←List.drop_drop,List.drop_left]
  rfl
theorem count_len (c:UInt8):∀(k:Nat) (s:List UInt8),s.length≤k→Lib.count s [c]≤s.length∧(Lib.count s [c]=0→c ∉ s):=by
  intro k
  induction k with
  | zero =>
    intro s hs
    have:s=[]:=List.eq_nil_of_length_eq_zero (by omega)
    subst this
    rw[count_no (by simp)]
    simp
  | succ k ih =>
    intro s hs
    rcases splitAt1 c s with h | ⟨a,t,rfl,h⟩
    · rw[count_no h];exact ⟨Nat.zero_le _,fun _=>h⟩
    · rw[count_at t h]
      simp at hs
      have:=(ih t (by omega)).1
      exact ⟨by simp;omega,fun e=>by omega⟩
theorem set_last {α:Type} {l:List α} {k:Nat} (h:l.length=k+1) (x:α):l.set k x=l.take k++[x]:=by
  rw[List.set_eq_take_append_cons_drop,if_pos (by omega),List.drop_eq_nil_of_le (by omega)]
theorem gen_split_l (n:Nat) (N:Nat) (hN:N≤2000000):∀(k:Nat) (s:List UInt8) (A:List (List UInt8)) (i f:Nat),s.length≤k→s.length≤1000000→A.length=N+1→i+Lib.count s [32]=N→s.length<f →
    ∃s' A',strings_genSplit_l11 (n+2) f (s,[32],0,(N:Int),A,(i:Int),())=some (.inl (s',A',(N:Int),()))∧A'.length=N+1∧A'.take N++[s']=A.take i++splC 32 s:=by
  intro k
  induction k with
  | zero =>
    intro s A i f hs _ hA hc hf
    have:s=[]:=List.eq_nil_of_length_eq_zero (by omega)
    subst this
    rw[count_no (by simp)] at hc
    obtain ⟨f,rfl⟩:∃g,f=g+1:=⟨f-1,by omega⟩
    rw[strings_genSplit_l11_eq,tfd,if_neg (by omega)]
    have:i=N:=by omega
    subst this
    exact ⟨[],A,rfl,hA,rfl⟩
  | succ k ih =>
    intro s A i f hs hl hA hc hf
    obtain ⟨f,rfl⟩:∃g,f=g+1:=⟨f-1,by omega⟩
    rw[strings_genSplit_l11_eq,tfd]
    rcases splitAt1 32 s with h | ⟨a,t,rfl,h⟩
    · rw[count_no h] at hc
      have:i=N:=by omega
      subst this
      rw[if_neg (by omega)]
      exact ⟨s,A,rfl,hA,by rw[splC_no h]⟩
    · rw[count_at t h] at hc
      simp at hs hl hf
      have hidx:Lib.index (a++32::t) [32]=(a.length:Int):=index_at (sub:=[32]) (r:=[]) (a:=a) (t:=t) rfl h
      rw[if_pos (by omega),strings_Index_eq,stringslite_Index_eq,gIndex,tfd,if_pos (by simp;omega),obs,obs,hidx,tfd,if_neg (by omega)]
      have w0:IntKind.wrap .i64 ((a.length:Int)+0)=(a.length:Int):=by rw[w64 (by omega) (by omega)];omega
      have w1:IntKind.wrap .i64 ((a.length:Int)+((([(32:UInt8)].length:Nat)):Int))=((a.length+1:Nat):Int):=by
        rw[w64 (by simp;omega) (by simp;omega)];simp
      rw[w0,w1]
      have c1:(decide (0≤(a.length:Int))&&decide ((a.length:Int)≤(((a++32::t).length:Nat):Int)))=true:=by simp;omega
      rw[c1,tft]
      have hai:A[i]? = some A[i]:=List.getElem?_eq_getElem (by omega)
      have hat:at? A (i:Int)=some A[i]:=by
        unfold at?
        rw[show decide (0≤(i:Int))=true by simp]
        simp
      rw[hat,obs,show Int.toNat (i:Int)=i from Int.toNat_natCast i,hai,obs]
      simp only[tfd]
      rw[if_pos (by omega),if_pos (by simp)]
      simp only[Int.toNat_natCast]
      rw[w64 (x:=(i:Int)+1) (by omega) (by omega)]
      have e1:List.drop (a.length+1) (List.take (a++32::t).length (a++32::t))=t:=by
        rw[List.take_length,←List.drop_drop,List.drop_left];rfl
      have e2:List.drop 0 (List.take a.length (a++32::t))=a:=by rw[List.take_left];rfl
      rw[e1,e2]
      obtain ⟨s',A',h1,h2,h3⟩:=ih t (A.set i a) (i+1) f (by omega) (by omega) (by simpa using hA) (by omega) (by omega)
      refine ⟨s',A',by rw[show ((i:Int)+1)=((i+1:Nat):Int) by simp];exact h1,h2,?_⟩
      rw[h3,splC_at t h]
      have:(A.set i a).take (i+1)=A.take i++[a]:=by
        rw[List.take_set]
        rw[set_last (by simp;omega) a,List.take_take,show min i (i+1)=i by omega]
      rw[this];simp
theorem split_val (n:Nat) (s:List UInt8) (hs:s.length≤1000000):strings_Split (n+4) s [32]=some (splC 32 s):=by
  have hcl:=(count_len 32 s.length s (Nat.le_refl _)).1
  rw[strings_Split_eq,strings_genSplit_eq,tfd,if_neg (by decide)]
  rw[show (([(32:UInt8)]:List UInt8)==[])=false from rfl,tff,tfd,if_pos (by decide),strings_Count_eq,gCount]
  have c0:(decide (s.length<4294967281)&&decide (1≤[(32:UInt8)].length))=true:=by simp;omega
  rw[c0,tft,obs]
  have hcnt:((Lib.countB ⟨s.toArray⟩ ⟨#[32]⟩:Nat):Int)=((Lib.count s [32]:Nat):Int):=rfl
  rw[show ([(32:UInt8)].toArray) = #[32] from rfl,hcnt]
  obtain ⟨c,hc⟩:∃c,c=Lib.count s [32]:=⟨_,rfl⟩
  rw[←hc] at hcl ⊢
  have m1:(if IntKind.wrap .i64 (((s.length:Nat):Int)+1)<IntKind.wrap .i64 ((c:Int)+1) then IntKind.wrap .i64 (((s.length:Nat):Int)+1) else IntKind.wrap .i64 ((c:Int)+1))=((c+1:Nat):Int):=by
    rw[w64 (by omega) (by omega),w64 (by omega) (by omega),if_neg (by omega)];simp
  simp only[m1]
  have c2:(decide (0≤((c+1:Nat):Int))&&(decide (((c+1:Nat):Int)≤((c+1:Nat):Int))&&decide (((c+1:Nat):Int)*16≤140737488355328)))=true:=by simp;omega
  rw[c2,tft]
  have w2:IntKind.wrap .i64 (((c+1:Nat):Int)-1)=(c:Int):=by rw[w64 (by omega) (by omega)];omega
  rw[w2,Int.toNat_natCast]
  obtain ⟨s',A',h1,h2,h3⟩:=gen_split_l n c (by omega) s.length s (List.replicate (c+1) []) 0 loopFuel (Nat.le_refl _) hs (by simp) (by omega) (by unfold loopFuel;omega)
  have h1:strings_genSplit_l11 (n+2) loopFuel (s,[32],0,(c:Int),List.replicate (c+1) [],0,())=some (.inl (s',A',(c:Int),())):=h1
  rw[h1,obs,selim_inl]
  have hai:A'[c]? = some A'[c]:=List.getElem?_eq_getElem (by omega)
  have hat:at? A' (c:Int)=some A'[c]:=by
    unfold at?
    rw[show decide (0≤(c:Int))=true by simp]
    simp
  dsimp only
  rw[hat,obs,Int.toNat_natCast,hai,obs,w64 (x:=(c:Int)+1) (by omega) (by omega)]
  have c3:(decide (0≤(c:Int)+1)&&decide ((c:Int)+1≤(((A'.set c s').length:Nat):Int)))=true:=by simp;omega
  rw[c3,tft,show Int.toNat ((c:Int)+1)=c+1 by omega,set_last h2,h3,obs]
  have hlen:(List.take 0 (List.replicate (c+1) ([]:List UInt8))++splC 32 s).length=c+1:=by
    rw[←h3];simp;omega
  rw[show List.drop 0 (List.take 0 (List.replicate (c+1) ([]:List UInt8))++splC 32 s)=splC 32 s by simp]
  rw[List.take_of_length_le (by simp at hlen;omega)]
theorem piV_range (l:List UInt8):I64 (piV 64 l).1:=by
  unfold piV
  split
  · rename_i v h
    unfold Lib.parseIntB at h
    split at h
    · cases h
    · rename_i c r
      dsimp only at h
      split at h
      · cases h
      · cases h
      · rename_i u hu
        split at h
        · cases h
        split at h
        · cases h
        rename_i h1 h2
        injection h with h
        subst h
        show I64 _
        unfold I64
        split<;>simp only[not_and,Nat.not_lt,Nat.not_le] at h1 h2<;>(try have h1:=h1 ‹_›)<;>(try have h2:=h2 ‹_›)<;>omega
  · unfold I64;omega
  · unfold Lib.intSat I64
    split<;>constructor<;>simp
theorem piV_nt {x:Int} (h:0≤x) (h1:I64 x):piV 64 (nt x)=(x,false):=by
  rw[nt_nn h]
  have hu:x.toNat≤9223372036854775807:=by have:=h1.2;omega
  obtain ⟨c,r,hcr⟩:∃c r,toB (decI x.toNat)=c::r:=by
    cases hh:toB (decI x.toNat) with
    | nil=>exact absurd hh (decI_ne _)
    | cons c r=>exact ⟨c,r,rfl⟩
  have hc:48≤c.toNat:=by
    rcases Nat.lt_or_ge c.toNat 48 with h | h
    · exact absurd (show c∈toB (decI x.toNat) by rw[hcr];exact List.mem_cons_self) (dec_no _ h)
    · exact h
  have hp:Lib.parseUintB 64 (toB (decI x.toNat)) = .ok x.toNat:=by
    unfold Lib.parseUintB
    rw[if_neg (decI_ne _),parseM_dec (2^64-1) (by decide) _ _ (Nat.le_refl _) (by omega)]
  have:Lib.parseIntB 64 (toB (decI x.toNat)) = .ok x:=by
    rw[hcr] at hp ⊢
    unfold Lib.parseIntB
    dsimp only
    rw[if_neg (by omega),hp]
    dsimp only
    rw [if_neg (by rintro ⟨_, q⟩; have : (2 : Nat) ^ (64 - 1) = 9223372036854775808 := by decide
                   omega),if_neg (by rintro ⟨q,_⟩;omega),if_neg (by omega)]
    congr 1
    omega
  unfold piV
  rw[this]
theorem pint_val (n:Nat) (s:List UInt8) (hs:s.length≤1000000):strconv_ParseInt (n+1) s 10 64=some (piV 64 s):=by
  rw[strconv_ParseInt_eq,gParseInt]
  have c:(decide (s.length≤281474976710656)&&(decide ((10:Int)=10)&&decide ((64:Int)=64)))=true:=by simp;omega
  rw[c,tft]
theorem puint_val (n:Nat) (s:List UInt8) (hs:s.length≤1000000):strconv_ParseUint (n+1) s 10 64=some (puV 64 s):=by
  rw[strconv_ParseUint_eq,gParseUint]
  have c:(decide (s.length≤281474976710656)&&(decide ((10:Int)=10)&&(decide ((64:Int)=63)||decide ((64:Int)=64))))=true:=by simp;omega
  rw[c,tft]
  rfl
theorem last_l (n:Nat) (s:List UInt8) (hs:s.length≤1000000) (c:UInt8):∀(k f:Nat),k≤s.length→k<f →
    (bytealg_LastIndexByteString_l2 n f (s,((c.toNat:Nat):Int),(k:Int)-1,())=some (.inl ())∧c ∉ s.take k) ∨
    ∃a t,s.take k=a++c::t∧c ∉ t∧bytealg_LastIndexByteString_l2 n f (s,((c.toNat:Nat):Int),(k:Int)-1,())=some (.inr (a.length:Int)):=by
  intro k
  induction k with
  | zero =>
    intro f hk hf
    obtain ⟨f,rfl⟩:∃g,f=g+1:=⟨f-1,by omega⟩
    rw[bytealg_LastIndexByteString_l2_eq,tfd,if_neg (by omega)]
    exact .inl ⟨rfl,by simp⟩
  | succ k ih =>
    intro f hk hf
    obtain ⟨f,rfl⟩:∃g,f=g+1:=⟨f-1,by omega⟩
    have hsk:s[k]? = some s[k]:=List.getElem?_eq_getElem (by omega)
    have hat:at? s (((k+1:Nat):Int)-1)=some s[k]:=by
      rw[show (((k+1:Nat):Int)-1)=(k:Int) by omega]
      unfold at?
      rw[show decide (0≤(k:Int))=true by simp]
      simp
    have htk:s.take (k+1)=s.take k++[s[k]]:=by
      rw[List.take_add_one,hsk];rfl
    rw[bytealg_LastIndexByteString_l2_eq,tfd,if_pos (by omega),hat,obs,tfd,htk]
    by_cases hc:s[k]=c
    · rw[if_pos (by rw[hc])]
      refine .inr ⟨s.take k,[],by rw[hc],by simp,?_⟩
      rw[List.length_take,show (((k+1:Nat):Int)-1)=(k:Int) by omega]
      congr 2
      omega
    · have hcn:¬((((s[k]).toNat:Nat):Int)=((c.toNat:Nat):Int)):=fun e=>hc (UInt8.toNat_inj.1 (by omega))
      rw[if_neg hcn,w64 (by omega) (by omega),show (((k+1:Nat):Int)-1-1)=(k:Int)-1 by omega]
      rcases ih f (by omega) (by omega) with ⟨h1,h2⟩ | ⟨a,t,h1,h2,h3⟩
      · refine .inl ⟨h1,fun hm => ?_⟩
        rcases List.mem_append.1 hm with hm | hm
        · exact h2 hm
        · exact hc (List.mem_singleton.1 hm).symm
      · refine .inr ⟨a,t++[s[k]],by rw[h1,List.append_assoc];rfl,fun hm => ?_,h3⟩
        rcases List.mem_append.1 hm with hm | hm
        · exact h2 hm
        · exact hc (List.mem_singleton.1 hm).symm
theorem last_val (n:Nat) (s:List UInt8) (hs:s.length≤1000000) (c:UInt8) :
    (strings_LastIndexByte (n+2) s ((c.toNat:Nat):Int)=some (-1)∧c ∉ s)∨∃a t,s=a++c::t∧c ∉ t∧strings_LastIndexByte (n+2) s ((c.toNat:Nat):Int)=some (a.length:Int):=by
  rw[strings_LastIndexByte_eq,bytealg_LastIndexByteString_eq,w64 (by omega) (by omega)]
  rcases last_l n s hs c s.length loopFuel (Nat.le_refl _) (by unfold loopFuel;omega) with ⟨h1,h2⟩ | ⟨a,t,h1,h2,h3⟩
  · rw[h1]
    exact .inl ⟨rfl,by simpa using h2⟩
  · rw[h3]
    exact .inr ⟨a,t,by simpa using h1,h2,rfl⟩
theorem splC_mem {c:UInt8}:∀(s:List UInt8) (w:List UInt8),w∈splC c s→w.length≤s.length
  | [],w,h=>by
    have:w=[]:=by simpa [splC] using h
    subst this;simp
  | d::s,w,h=>by
    rw[splC_cons] at h
    have ih:=splC_mem (c:=c) s
    split at h
    · rcases List.mem_cons.1 h with rfl | h
      · simp
      · have:=ih w h;simp;omega
    · cases hs:splC c s with
      | nil =>
        rw[hs] at h
        have:w=[d]:=by simpa using h
        subst this;simp
      | cons x xs =>
        rw[hs] at h ih
        rcases List.mem_cons.1 h with rfl | h
        · have:=ih x List.mem_cons_self;simp;omega
        · have:=ih w (List.mem_cons_of_mem _ h);simp;omega
theorem puW (B:Nat) (hB:B=64) (l:List UInt8):0≤(puV B l).1∧(puV B l).1≤18446744073709551615:=by
  subst hB
  have:=puV_range 64 l
  exact ⟨this.1,by have:=this.2;simpa using this⟩
theorem i64z:I64 0:=by unfold I64;omega
theorem evW0:EvW ((0:Int),((0:Int),((0:Int),false))):=⟨i64z,by simp,i64z⟩
theorem tail_tot (n:Nat) (s:List UInt8) (hs:s.length≤1000000):∃e b,text_tail (n+5) s=some (e,b)∧EvW e:=by
  rw[text_tail_eq,split_val n s hs,obs]
  have hm:∀w∈splC 32 s,w.length≤1000000:=fun w hw=>by have:=splC_mem s w hw;omega
  obtain ⟨L,hL⟩:∃L,L=splC 32 s:=⟨_,rfl⟩
  rw[←hL] at hm ⊢
  have hP:∀w:List UInt8,w.length≤1000000→strconv_ParseInt (n+3) w 10 64=some (piV 64 w):=fun w h=>pint_val (n+2) w h
  have hU:∀w:List UInt8,w.length≤1000000→strconv_ParseUint (n+3) w 10 64=some (puV 64 w):=fun w h=>puint_val (n+2) w h
  have hC:∀w:List UInt8,strings_CutPrefix (n+3+1) w [99]=some (cutP 99 w):=fun w=>cutp_val (n+1) 99 w
  match L,hm with
  | [],_=>exact ⟨_,_,rfl,evW0⟩
  | [a],_=>exact ⟨_,_,rfl,evW0⟩
  | [a,b],_=>exact ⟨_,_,rfl,evW0⟩
  | [a,b,c],hm =>
    have hb:=hm b (by simp)
    have hc:=hm c (by simp)
    rw[tfd,if_neg (by simp),tfd,if_neg (by simp),show at? [a,b,c] 0=some a from rfl,obs]
    cases ha:(a==([]:List UInt8)) with
    | false=>exact ⟨_,_,rfl,evW0⟩
    | true =>
      rw[Bool.not_true,tff,show at? [a,b,c] 1=some b from rfl,obs,show at? [a,b,c] 2=some c from rfl,hU b hb]
      simp only[obs]
      rw[hP c hc]
      simp only[obs]
      cases hst:(b==[(115:UInt8),116,97,108,101]) with
      | true =>
        rw[tft,tfd,if_neg (by simp)]
        exact ⟨_,_,rfl,piV_range c,⟨by simp,by simp⟩,i64z⟩
      | false =>
        rw[tff]
        cases hu:(puV 64 b).2 with
        | false =>
          rw[Bool.not_false,tft,tfd,if_neg (by simp)]
          exact ⟨_,_,rfl,piV_range c,puW 64 rfl b,i64z⟩
        | true =>
          rw[Bool.not_true,tff,tfd,if_neg (by simp)]
          exact ⟨_,_,rfl,i64z,puW 64 rfl b,i64z⟩
  | [a,b,c,d],hm =>
    have hb:=hm b (by simp)
    have hc:=hm c (by simp)
    have hd:=hm d (by simp)
    have hd2:(cutP 99 d).1.length≤1000000:=by have:=cutP_len 99 d;omega
    rw[tfd,if_neg (by simp),tfd,if_neg (by simp),show at? [a,b,c,d] 0=some a from rfl,obs]
    cases ha:(a==([]:List UInt8)) with
    | false=>exact ⟨_,_,rfl,evW0⟩
    | true =>
      rw[Bool.not_true,tff,show at? [a,b,c,d] 1=some b from rfl,obs,show at? [a,b,c,d] 2=some c from rfl,show at? [a,b,c,d] 3=some d from rfl,hU b hb]
      simp only[obs]
      rw[hP c hc,hC d]
      simp only[obs]
      rw[hP _ hd2]
      simp only[obs]
      cases hst:(b==[(115:UInt8),116,97,108,101]) with
      | true =>
        rw[tft,tfd,if_pos (by simp)]
        cases hp:(piV 64 c).2 with
        | true=>exact ⟨_,_,rfl,piV_range c,⟨by simp,by simp⟩,i64z⟩
        | false =>
          rw[Bool.not_false,tft]
          cases hq:(cutP 99 d).2 with
          | false=>exact ⟨_,_,rfl,piV_range c,⟨by simp,by simp⟩,i64z⟩
          | true=>exact ⟨_,_,rfl,piV_range c,⟨by simp,by simp⟩,piV_range _⟩
      | false =>
        rw[tff]
        cases hu:(puV 64 b).2 with
        | true =>
          rw[Bool.not_true,tff,tfd,if_pos (by simp)]
          exact ⟨_,_,rfl,i64z,puW 64 rfl b,i64z⟩
        | false =>
          rw[Bool.not_false,tft,tfd,if_pos (by simp)]
          cases hp:(piV 64 c).2 with
          | true=>exact ⟨_,_,rfl,piV_range c,puW 64 rfl b,i64z⟩
          | false =>
            rw[Bool.not_false,tft]
            cases hq:(cutP 99 d).2 with
            | false=>exact ⟨_,_,rfl,piV_range c,puW 64 rfl b,i64z⟩
            | true=>exact ⟨_,_,rfl,piV_range c,puW 64 rfl b,piV_range _⟩
  | a::b::c::d::e::r,_ =>
    rw[tfd,if_neg (by simp;omega),tfd,if_pos (by simp;omega)]
    exact ⟨_,_,rfl,evW0⟩
def evV (e:Ev):List UInt8:=if e.2.2.2=true then wStale else toB (decI e.2.1.toNat)
theorem evV_no {e:Ev} {c:UInt8} (hc:c.toNat<48):c ∉ evV e:=by
  unfold evV
  split
  · intro h
    have:c=115∨c=116∨c=97∨c=108∨c=101:=by simpa [wStale] using h
    rcases this with rfl | rfl | rfl | rfl | rfl<;>simp at hc
  · exact dec_no _ hc
theorem nt_no2 {x:Int} (h:0≤x) {c:UInt8} (hc:c.toNat<48):c ∉ nt x:=by
  rw[nt_nn h];exact dec_no _ hc
theorem dec_no2 (u:Nat) {c:UInt8} (hc:57<c.toNat):c ∉ toB (decI u):=by
  intro h
  simp only[toB,List.mem_map] at h
  obtain ⟨x,hx,he⟩:=h
  have hr:=decI_range u x hx
  have:=congrArg UInt8.toNat he
  rw[UInt8.toNat_ofNat'] at this
  omega
theorem evT_spl {e:Ev} (h:EvOk e):splC 32 (evT e)=if 0<e.2.2.1 then [[],evV e,nt e.1,99::nt e.2.2.1] else [[],evV e,nt e.1]:=by
  have e0:evT e=[]++32::(evV e++32::(nt e.1++(if 0<e.2.2.1 then 32::99::nt e.2.2.1 else []))):=rfl
  rw[e0,splC_at _ (by simp),splC_at _ (evV_no (by decide))]
  split
  · rw[splC_at _ (nt_no2 h.t0 (by decide)),splC_no]
    intro hm
    rcases List.mem_cons.1 hm with hm | hm
    · exact absurd hm (by decide)
    · exact nt_no2 h.c0 (by decide) hm
  · rw[List.append_nil,splC_no (nt_no2 h.t0 (by decide))]
theorem tail_good (n:Nat) {e:Ev} (h:EvOk e) (hw:EvW e):text_tail (n+5) (evT e)=some (e,true):=by
  have hP:∀w:List UInt8,w.length≤1000000→strconv_ParseInt (n+3) w 10 64=some (piV 64 w):=fun w h=>pint_val (n+2) w h
  have hU:∀w:List UInt8,w.length≤1000000→strconv_ParseUint (n+3) w 10 64=some (puV 64 w):=fun w h=>puint_val (n+2) w h
  have hC:∀w:List UInt8,strings_CutPrefix (n+3+1) w [99]=some (cutP 99 w):=fun w=>cutp_val (n+1) 99 w
  have hl:=evT_len hw
  have hT:=nt_len hw.t
  have hCl:=nt_len hw.c
  have hpT:=piV_nt h.t0 hw.t
  have hpC:=piV_nt h.c0 hw.c
  have hcut:cutP 99 (99::nt e.2.2.1)=(nt e.2.2.1,true):=by
    show (if (99:UInt8)=99 then (nt e.2.2.1,true) else (99::nt e.2.2.1,false))=_
    rw[if_pos rfl]
  rw[text_tail_eq,split_val n _ (by omega),obs,evT_spl h]
  cases hst:e.2.2.2 with
  | true =>
    obtain ⟨hv0,hc0⟩:=h.st hst
    have hV:evV e=[115,116,97,108,101]:=by unfold evV;rw[if_pos hst];rfl
    rw[if_neg (by omega),hV,tfd,if_neg (by simp),tfd,if_neg (by simp)]
    have a0:∀x:List UInt8,at? [([]:List UInt8),[115,116,97,108,101],x] 0=some []:=fun _=>rfl
    have a1:∀x:List UInt8,at? [([]:List UInt8),[115,116,97,108,101],x] 1=some [115,116,97,108,101]:=fun _=>rfl
    have a2:∀x:List UInt8,at? [([]:List UInt8),[115,116,97,108,101],x] 2=some x:=fun _=>rfl
    rw[a0,obs,a1,a2]
    simp only[obs]
    rw[hP _ (by omega),hpT]
    simp only[obs]
    have:e=(e.1,0,0,true):=Prod.ext rfl (Prod.ext hv0 (Prod.ext hc0 hst))
    conv=>rhs;rw[this]
    rfl
  | false =>
    have hV:evV e=toB (decI e.2.1.toNat):=by unfold evV;rw[if_neg (by rw[hst];simp)]
    have hne:(toB (decI e.2.1.toNat)==[115,116,97,108,101])=false:=by
      cases hq:(toB (decI e.2.1.toNat)==[115,116,97,108,101]) with
      | false=>rfl
      | true =>
        have:=eq_of_beq hq
        exact absurd (show (115:UInt8)∈toB (decI e.2.1.toNat) by rw[this];simp) (dec_no2 _ (by decide))
    have hVl:=dec_len hw.v.1 hw.v.2
    have hpV:puV 64 (toB (decI e.2.1.toNat))=(e.2.1,false):=by
      rw[puV_dec 64 (by decide) (by have:=hw.v.2;omega),show ((e.2.1.toNat:Nat):Int)=e.2.1 by have:=hw.v.1;omega]
    rw[hV]
    by_cases hc:0<e.2.2.1
    · rw[if_pos hc,tfd,if_neg (by simp),tfd,if_neg (by simp)]
      have a0:∀x y z:List UInt8,at? [([]:List UInt8),x,y,z] 0=some []:=fun _ _ _=>rfl
      have a1:∀x y z:List UInt8,at? [([]:List UInt8),x,y,z] 1=some x:=fun _ _ _=>rfl
      have a2:∀x y z:List UInt8,at? [([]:List UInt8),x,y,z] 2=some y:=fun _ _ _=>rfl
      have a3:∀x y z:List UInt8,at? [([]:List UInt8),x,y,z] 3=some z:=fun _ _ _=>rfl
      rw[a0,obs,a1,a2,a3]
      simp only[obs]
      rw[hne,tff,hU _ (by omega),hpV]
      simp only[obs]
      rw[hP _ (by omega),hpT,hC,hcut]
      simp only[obs]
      rw[hP _ (by omega),hpC]
      simp only[obs]
      have:e=(e.1,e.2.1,e.2.2.1,false):=Prod.ext rfl (Prod.ext rfl (Prod.ext rfl hst))
      conv=>rhs;rw[this]
      simp[tif_ite]
    · rw[if_neg hc,tfd,if_neg (by simp),tfd,if_neg (by simp)]
      have hc0:e.2.2.1=0:=by have:=h.c0;omega
      have a0:∀x y:List UInt8,at? [([]:List UInt8),x,y] 0=some []:=fun _ _=>rfl
      have a1:∀x y:List UInt8,at? [([]:List UInt8),x,y] 1=some x:=fun _ _=>rfl
      have a2:∀x y:List UInt8,at? [([]:List UInt8),x,y] 2=some y:=fun _ _=>rfl
      rw[a0,obs,a1,a2]
      simp only[obs]
      rw[hne,tff,hU _ (by omega),hpV]
      simp only[obs]
      rw[hP _ (by omega),hpT]
      simp only[obs]
      have:e=(e.1,e.2.1,0,false):=Prod.ext rfl (Prod.ext rfl (Prod.ext hc0 hst))
      conv=>rhs;rw[this]
      simp[tif_ite]
def okR (r:RowT):Prop:=LabOk r.1∧EvOk r.2
noncomputable instance (r:RowT):Decidable (okR r):=Classical.propDecidable _
def z0R:RowT:=([],((0:Int),((0:Int),((0:Int),false))))
theorem evT_brace {e:Ev} (h:EvOk e):(125:UInt8) ∉ evT e:=by
  intro hm
  have n1:∀x:Int,0≤x→(125:UInt8) ∉ nt x:=fun x hx=>by rw[nt_nn hx];exact dec_no2 _ (by decide)
  have nv:(125:UInt8) ∉ evV e:=by
    unfold evV
    split
    · decide
    · exact dec_no2 _ (by decide)
  have hm:(125:UInt8)∈32::(evV e++32::(nt e.1++(if 0<e.2.2.1 then 32::99::nt e.2.2.1 else []))):=hm
  rcases List.mem_cons.1 hm with hm | hm
  · exact absurd hm (by decide)
  rcases List.mem_append.1 hm with hm | hm
  · exact nv hm
  rcases List.mem_cons.1 hm with hm | hm
  · exact absurd hm (by decide)
  rcases List.mem_append.1 hm with hm | hm
  · exact n1 _ h.t0 hm
  split at hm
  · rcases List.mem_cons.1 hm with hm | hm
    · exact absurd hm (by decide)
    rcases List.mem_cons.1 hm with hm | hm
    · exact absurd hm (by decide)
    · exact n1 _ h.c0 hm
  · cases hm
theorem text_parse (n:Nat) (s:List UInt8) (hs:s.length≤100000):∃p:RowT×Int,text_Parse (n+9) s=some p∧EvW p.1.2∧((p.2=0∧okR p.1∧lineT p.1=s)∨p=(z0R,4)):=by
  have key:∃i:Nat,i≤s.length∧∃j:Int,strings_LastIndexByte (n+8) s 125=some j∧j+1=(i:Int):=by
    rcases last_val (n+6) s (by omega) 125 with ⟨h1,_⟩ | ⟨a,t,h1,_,h3⟩
    · exact ⟨0,Nat.zero_le _,-1,h1,rfl⟩
    · exact ⟨a.length+1,by rw[h1];simp,_,h3,by simp⟩
  obtain ⟨i,hi,j,h1,hij⟩:=key
  rw[text_Parse_eq,h1,obs,w64 (x:=j+1) (by omega) (by omega),hij]
  simp only[Int.toNat_natCast]
  have c1:(decide ((0:Int)≤(i:Int))&&decide ((i:Int)≤((s.length:Nat):Int)))=true:=by simp;omega
  rw[c1,tft]
  obtain ⟨r,hr,hr2⟩:=label_parse_tot (n+1) (List.drop 0 (List.take i s)) (by simp;omega)
  obtain ⟨e,b,he,hew⟩:=tail_tot (n+3) (List.drop i (List.take s.length s)) (by simp;omega)
  rw[hr,obs]
  simp only[tfd]
  rw[if_pos (by omega),if_pos hi,he,obs]
  have bad:∃p:RowT×Int,(some (z0R,(4:Int)):Option (RowT×Int))=some p∧EvW p.1.2∧((p.2=0∧okR p.1∧lineT p.1=s)∨p=(z0R,4)):=⟨_,rfl,evW0,.inr rfl⟩
  cases hb1:(!decide (r.2=0)) with
  | true=>exact bad
  | false =>
    rw[tff]
    cases b with
    | false=>exact bad
    | true =>
      rw[Bool.not_true,tff,text_line n (r.1,e) hew]
      simp only[obs]
      by_cases ho:okR (r.1,e)
      · rw[if_pos ho.1,if_pos ho.2]
        simp only[decide_true,Bool.not_true,tff]
        cases hq:(lineT (r.1,e)==s) with
        | false=>exact bad
        | true=>exact ⟨_,rfl,hew,.inl ⟨rfl,ho,eq_of_beq hq⟩⟩
      · by_cases hl:LabOk (r.1,e).1
        · rw[if_pos hl,if_neg (fun k=>ho ⟨hl,k⟩)]
          exact bad
        · rw[if_neg hl]
          exact bad
theorem text_parse_good (n:Nat) {r:RowT} (h:okR r) (hw:EvW r.2):text_Parse (n+9) (lineT r)=some (r,0):=by
  have hl:=textL_len h.1
  have he:=evT_len hw
  obtain ⟨A,hA⟩:∃A,textL r.1=A++[125]:=⟨bodyL 123 r.1,rfl⟩
  have hline:lineT r=A++125::evT r.2:=by
    unfold lineT;rw[hA];simp
  have hAl:A.length+1=(textL r.1).length:=by rw[hA];simp
  have hsz:(lineT r).length=(textL r.1).length+(evT r.2).length:=by unfold lineT;simp
  have h1:strings_LastIndexByte (n+8) (lineT r) 125=some (A.length:Int):=by
    rcases last_val (n+6) (lineT r) (by omega) 125 with ⟨_,h1⟩ | ⟨a,t,h1,h2,h3⟩
    · exact absurd (show (125:UInt8)∈lineT r by rw[hline];simp) h1
    · have hq:a++125::t=A++125::evT r.2:=by rw[←h1,hline]
      have hlen:a.length=A.length:=by
        have e1:=congrArg List.reverse hq
        simp only[List.reverse_append,List.reverse_cons,List.append_assoc,List.singleton_append] at e1
        have e2:=evT_brace h.2
        have g:=splC_at (c:=125) a.reverse (a:=t.reverse) (fun k=>h2 (List.mem_reverse.1 k))
        have g2:=splC_at (c:=125) A.reverse (a:=(evT r.2).reverse) (fun k=>e2 (List.mem_reverse.1 k))
        have e3:t.reverse++125::a.reverse=(evT r.2).reverse++125::A.reverse:=e1
        rw[e3,g2] at g
        have g0:=(List.cons.inj g).1
        have gl:=congrArg List.length g0
        have ql:=congrArg List.length hq
        rw[List.length_reverse,List.length_reverse] at gl
        rw[List.length_append,List.length_append,List.length_cons,List.length_cons] at ql
        clear hq e1 e3 g g2 g0 hA hline h1 h3 h2 e2
        omega
      have h3':strings_LastIndexByte (n+8) (lineT r) 125=some (a.length:Int):=h3
      rw[h3',hlen]
  rw[text_Parse_eq,h1,obs,w64 (by omega) (by omega)]
  have hi:((A.length:Int)+1)=(((textL r.1).length:Nat):Int):=by omega
  rw[hi]
  simp only[Int.toNat_natCast]
  have c1:(decide ((0:Int)≤(((textL r.1).length:Nat):Int))&&decide ((((textL r.1).length:Nat):Int)≤(((lineT r).length:Nat):Int)))=true:=by simp;omega
  rw[c1,tft]
  have e1:List.drop 0 (List.take (textL r.1).length (lineT r))=textL r.1:=by unfold lineT;rw[List.take_left];rfl
  have e2:List.drop (textL r.1).length (List.take (lineT r).length (lineT r))=evT r.2:=by
    rw[List.take_length];unfold lineT;rw[List.drop_left]
  rw[e1,e2,label_parse_text (n+1) h.1,obs]
  simp only[tfd]
  rw[if_pos (by omega),if_pos (by omega),tail_good (n+3) h.2 hw,obs]
  simp only[decide_true,Bool.not_true,tff]
  rw[text_line n (r.1,r.2) hw]
  simp only[obs]
  rw[if_pos h.1,if_pos h.2]
  simp[tif_ite]
noncomputable def rowO (s:List UInt8):Option RowT:=open Classical in if h:∃r:RowT,okR r∧EvW r.2∧lineT r=s then some (Classical.choose h) else none
theorem rowO_some {s:List UInt8} {r:RowT} (h:rowO s=some r):okR r∧EvW r.2∧lineT r=s:=by
  unfold rowO at h
  split at h
  · rename_i q
    injection h with h
    subst h
    exact Classical.choose_spec q
  · cases h
theorem rowO_good {r:RowT} (h:okR r) (hw:EvW r.2):rowO (lineT r)=some r:=by
  have q:∃x:RowT,okR x∧EvW x.2∧lineT x=lineT r:=⟨r,h,hw,rfl⟩
  have hs:rowO (lineT r)=some (Classical.choose q):=by unfold rowO;rw[dif_pos q]
  obtain ⟨k1,k2,k3⟩:=rowO_some hs
  have e1:=text_parse_good 0 k1 k2
  rw[k3,text_parse_good 0 h hw] at e1
  injection e1 with e1
  injection e1 with e1
  rw[hs,←e1]
theorem text_parse_row (n:Nat) (s:List UInt8) (hs:s.length≤100000):text_Parse (n+9) s=some (match rowO s with | some r=>(r,0) | none=>(z0R,4)):=by
  cases h:rowO s with
  | some r =>
    obtain ⟨k1,k2,rfl⟩:=rowO_some h
    exact text_parse_good n k1 k2
  | none =>
    obtain ⟨p,h1,h2,h3⟩:=text_parse n s hs
    rw[h1]
    rcases h3 with ⟨_,h4,h5⟩ | h3
    · have:=rowO_good h4 h2
      rw[h5,h] at this
      cases this
    · rw[h3]
noncomputable def rowsL (L:List (List UInt8)):List RowT:=L.filterMap rowO
noncomputable def badL:List (List UInt8)→Nat
  | []=>0
  | s::L=>(match rowO s with | some _=>0 | none=>1)+badL L
theorem badL_le:∀L,badL L≤L.length
  | []=>Nat.le_refl _
  | s::L=>by
    have:=badL_le L
    unfold badL
    cases rowO s<;>simp<;>omega
theorem badL_app:∀L M,badL (L++M)=badL L+badL M
  | [],M=>by simp[badL]
  | s::L,M=>by
    show (match rowO s with | some _=>0 | none=>1)+badL (L++M)=_
    rw[badL_app L M]
    show _=(match rowO s with | some _=>0 | none=>1)+badL L+badL M
    omega
theorem rowsL_len (L:List (List UInt8)):(rowsL L).length≤L.length:=List.length_filterMap_le _ _
theorem read_l (n:Nat):∀(L:List (List UInt8)) (out:List RowT) (others:Int),(∀s∈L,s.length≤100000)→out.length+L.length≤10000000→0≤others→others+L.length≤10000000 →
    text_Read_s5 (n+9) (L.map fun l=>(l,())) (out,others,())=some (out++rowsL L,others+(badL L:Int),()):=by
  intro L
  induction L with
  | nil=>intro out others _ _ _ _;rw[List.map_nil,text_Read_s5_nil];simp[rowsL,badL]
  | cons s L ih =>
    intro out others hL h1 h2 h3
    simp only[List.length_cons] at h1 h3
    rw[List.map_cons,text_Read_s5_cons]
    dsimp only
    rw[text_parse_row n s (hL s List.mem_cons_self),obs]
    have hL':∀s∈L,s.length≤100000:=fun x hx=>hL x (List.mem_cons_of_mem _ hx)
    cases hr:rowO s with
    | some r =>
      dsimp only
      simp only[decide_true,Bool.not_true,tff,tfd]
      rw[if_pos (by omega),obs,ih (out++[r]) others hL' (by simp;omega) h2 (by omega)]
      simp[rowsL,badL,hr]
    | none =>
      dsimp only
      rw[show (!decide ((4:Int)=0))=true by decide,tft,obs,w64 (by omega) (by omega),ih out (others+1) hL' (by omega) (by omega) (by omega)]
      simp[rowsL,badL,hr]
      omega
theorem text_read (n:Nat) (s:List UInt8) (hs:s.length≤1000000) (hL:∀l∈linesF (s.length+1) s,l.length≤100000) (hn:(linesF (s.length+1) s).length≤1000000) :
    text_Read (n+10) s=some (rowsL (linesF (s.length+1) s),(badL (linesF (s.length+1) s):Int)):=by
  rw[text_Read_eq,text_lines_eq,gLines,tfd,if_pos (by omega),obs,read_l n _ [] 0 hL (by simp;omega) (by omega) (by omega),obs]
  simp
theorem lib_cut (s sep:List UInt8):Lib.cut s sep=cutV s sep:=rfl
theorem linesF_nil:∀f,linesF f []=[]
  | 0=>rfl
  | f+1=>by unfold linesF;rw[if_pos rfl]
theorem linesF_at {a t:List UInt8} (ha:(10:UInt8) ∉ a) (f:Nat):linesF (f+1) (a++10::t)=(if lineOk a=true then [a] else [])++linesF f t:=by
  have hc:Lib.cut (a++10::t) [10]=(a,t,true):=by
    rw[lib_cut,show a++10::t=a++([10]++t) by simp];exact cutV_at ha
  conv=>lhs;unfold linesF
  rw[if_neg (by simp),hc]
theorem linesF_end {a:List UInt8} (ha:(10:UInt8) ∉ a) (f:Nat):linesF (f+1) a=if lineOk a=true then [a] else []:=by
  by_cases h:a=[]
  · subst h
    rw[linesF_nil];rfl
  · have hc:Lib.cut a [10]=(a,[],false):=by rw[lib_cut];exact cutV_no ha
    conv=>lhs;unfold linesF
    rw[if_neg h,hc]
    dsimp only
    rw[linesF_nil,List.append_nil]
theorem linesF_len:∀(f:Nat) (s:List UInt8),(linesF f s).length≤f
  | 0,_=>Nat.le_refl _
  | f+1,s=>by
    unfold linesF
    split
    · simp
    · have:=linesF_len f (Lib.cut s [10]).2.1
      rw[List.length_append]
      split<;>simp<;>omega
theorem linesF_mem:∀(f:Nat) (s l:List UInt8),l∈linesF f s→l.length≤s.length
  | 0,_,_,h=>by cases h
  | f+1,s,l,h=>by
    unfold linesF at h
    have hl:=cutV_len s [10]
    split at h
    · cases h
    · rw[lib_cut] at h
      rcases List.mem_append.1 h with h | h
      · split at h
        · rw[List.mem_singleton.1 h];exact hl.1
        · cases h
      · have:=linesF_mem f _ l h;omega
theorem lineT_len {r:RowT} (h:okR r) (hw:EvW r.2):(lineT r).length≤10100:=by
  have h1:=textL_len h.1
  have h2:=evT_len hw
  unfold lineT
  rw[List.length_append];omega
theorem r34_same (n:Nat) (a:RowT) (hl:a.1.length≤1000000):r34_Same (n+2) a a=some true:=by
  rw[r34_Same_eq,same5 n a.1 a.1 (by omega),obs]
  simp[tif_ite]
theorem r34_list_l (n:Nat) (l:List RowT) (hl:l.length≤1000000) (hw:∀r∈l,r.1.length≤1000000):∀(rest pre:List RowT) (f:Nat) (i:Int),l=pre++rest→i=pre.length →
    r34_SameList_l4 (n+2) (f+rest.length+1) (l,l,(l.length:Int),i,())=some (.inl ()):=by
  intro rest
  induction rest with
  | nil =>
    intro pre f i h hi
    rw[r34_SameList_l4_eq]
    simp only[tfd,if_neg (idxe h hi rfl)]
  | cons a rest ih =>
    intro pre f i h hi
    have hlen:=congrArg List.length h
    simp at hlen
    have ha:=hw a (by rw[h];simp)
    rw[show f+(a::rest).length+1=(f+rest.length+1)+1 by simp;omega,r34_SameList_l4_eq]
    simp only[tfd,if_pos (idx h hi rfl)]
    rw[at_mid h hi,obs,obs,r34_same n a ha,obs,w64 (x:=i+1) (by omega) (by omega),ih (pre++[a]) f (i+1) (idxl h) (idxs hi)]
    rfl
theorem r34_list (n:Nat) (l:List RowT) (hl:l.length≤1000000) (hw:∀r∈l,r.1.length≤1000000):r34_SameList (n+3) l l=some true:=by
  rw[r34_SameList_eq]
  have:=r34_list_l n l hl hw l [] (loopFuel-l.length-1) 0 rfl rfl
  rw[←lfu (by omega)] at this
  rw[this]
  simp
theorem small34_l (n:Nat) (l:List RowT) (hl:l.length≤9223372036854775807) (hw:∀r∈l,r.1.length≤9223372036854775807):∀(rest pre:List RowT) (f:Nat) (i:Int),l=pre++rest→i=pre.length→pre.length≤60 →
    ∃z,l34_Small_l2 (n+1) (f+rest.length+1) (l,(l.length:Int),i,())=some z∧(z = .inr 0∨(z = .inl ()∧pre.length+rest.length≤60∧∀r∈rest,r.1.length≤40)):=by
  intro rest
  induction rest with
  | nil =>
    intro pre f i h hi hp
    rw[l34_Small_l2_eq]
    simp only[tfd,if_neg (idxe h hi rfl)]
    exact ⟨_,rfl,.inr ⟨rfl,by simpa using hp,fun r hr=>by cases hr⟩⟩
  | cons a rest ih =>
    intro pre f i h hi hp
    have hlen:=congrArg List.length h
    simp at hlen
    rw[show f+(a::rest).length+1=(f+rest.length+1)+1 by simp;omega,l34_Small_l2_eq]
    simp only[tfd,if_pos (idx h hi rfl)]
    rw[at_mid h hi,obs]
    by_cases h60:i=60
    · rw[if_pos h60];exact ⟨_,rfl,.inl rfl⟩
    rw[if_neg h60]
    rcases labs_small n a.1 (hw a (by rw[h];simp)) with hs | ⟨hs,hs2⟩
    · rw[hs,obs,if_pos rfl];exact ⟨_,rfl,.inl rfl⟩
    · rw[hs,obs,if_neg (by decide),w64 (x:=i+1) (by omega) (by omega)]
      obtain ⟨z,z1,z2⟩:=ih (pre++[a]) f (i+1) (idxl h) (idxs hi) (by simp;omega)
      refine ⟨z,z1,?_⟩
      rcases z2 with z2 | ⟨q,z2,z3⟩
      · exact .inl z2
      · refine .inr ⟨q,by simp at z2 ⊢;omega,fun r hr => ?_⟩
        rcases List.mem_cons.1 hr with rfl | hr
        · exact hs2
        · exact z3 r hr
theorem small34 (n:Nat) (l:List RowT) (hl:l.length≤9223372036854775807) (hw:∀r∈l,r.1.length≤9223372036854775807):l34_Small (n+2) l=some 0∨(l34_Small (n+2) l=some 1∧l.length≤60∧∀r∈l,r.1.length≤40):=by
  rw[l34_Small_eq]
  by_cases hb:l.length≤1000000000000
  · obtain ⟨z,h1,h2⟩:=small34_l n l hl hw l [] (loopFuel-l.length-1) 0 rfl rfl (by simp)
    rw[←lfu hb] at h1
    rw[h1,obs]
    rcases h2 with rfl | ⟨rfl,h2,h3⟩
    · exact .inl rfl
    · exact .inr ⟨rfl,by simpa using h2,h3⟩
  · obtain ⟨z,h1,h2⟩:=small34_l n l hl hw l [] (loopFuel-l.length-1) 0 rfl rfl (by simp)
    rw[show loopFuel-l.length-1+l.length+1=loopFuel by unfold loopFuel;omega] at h1
    rw[h1,obs]
    rcases h2 with rfl | ⟨rfl,h2,h3⟩
    · exact .inl rfl
    · exact .inr ⟨rfl,by simpa using h2,h3⟩
theorem row_wf {r:RowT} (h:Wf tyRow r):EvW r.2:=by
  obtain ⟨_,hT⟩:=h
  obtain ⟨t1,t2,t3,_⟩:=hT
  exact ⟨t1,t2,t3⟩
def stV (v:Int) (c:UInt8):Int:=IntKind.wrap .u64 ((IntKind.wrap .u64 ((10:Int)*v))+(IntKind.wrap .u64 (Int.tmod (IntKind.wrap .u8 ((((UInt8.toNat c):Nat):Int)-(48:Int))) (10:Int))))
theorem stV_range (v:Int) (c:UInt8):0≤stV v c∧stV v c≤18446744073709551615:=by
  unfold stV
  rw[IntKind.wrap_u64]
  omega
theorem foldV_range:∀(s:List UInt8) (v:Int),0≤v∧v≤18446744073709551615→0≤s.foldl stV v∧s.foldl stV v≤18446744073709551615
  | [],v,h=>h
  | c::s,v,h=>foldV_range s (stV v c) (stV_range v c)
theorem stV_dig {v d:Nat} (hd:d<10) (hv:10*v+d≤18446744073709551615):stV (v:Int) (UInt8.ofNat (48+d))=((10*v+d:Nat):Int):=by
  unfold stV
  have e:(UInt8.ofNat (48+d)).toNat=48+d:=by rw[UInt8.toNat_ofNat'];omega
  have e2:IntKind.wrap .u8 (((48+d:Nat):Int)-48)=(d:Int):=by rw[IntKind.wrap_u8];omega
  rw[e,e2,tmod_nn (by omega),wu64 (x:=10*(v:Int)) (by omega) (by omega),wu64 (x:=(d:Int) % 10) (by omega) (by omega),wu64 (by omega) (by omega)]
  omega
theorem foldV_dec:∀(k u:Nat),u≤k→u≤18446744073709551615→(toB (decI u)).foldl stV 0=(u:Int):=by
  intro k
  induction k with
  | zero =>
    intro u hk hu
    have:u=0:=by omega
    subst this
    rw[decI_small (by omega)]
    show stV ((0:Nat):Int) (UInt8.ofNat (48+0))=_
    rw[stV_dig (by omega) (by omega)]
  | succ k ih =>
    intro u hk hu
    by_cases h:u<10
    · rw[decI_small h]
      show stV ((0:Nat):Int) (UInt8.ofNat (Int.toNat ((48+u:Nat):Int)))=_
      rw[Int.toNat_natCast,stV_dig h (by omega)]
      simp
    · rw[decI_step (by omega) (by omega),toB_append,List.foldl_append,ih (u / 10) (by omega) (by omega)]
      show stV ((u / 10:Nat):Int) (UInt8.ofNat (Int.toNat ((48+u % 10:Nat):Int)))=_
      rw[Int.toNat_natCast,stV_dig (by omega) (by omega)]
      omega
theorem value_dec {u:Nat} (hu:u≤18446744073709551615):((toB (decI u)).take 20).foldl stV 0=(u:Int):=by
  have hl:(toB (decI u)).length≤20:=by
    unfold decI
    rw[toB_length,dgs_len];exact ndg_le (by omega)
  rw[List.take_of_length_le hl]
  exact foldV_dec u u (Nat.le_refl _) hu
theorem nt_val {x:Int} (h:0≤x) (h1:I64 x):IntKind.wrap .i64 (((nt x).take 20).foldl stV 0)=x:=by
  rw[nt_nn h,value_dec (by have:=h1.2;omega),show ((x.toNat:Nat):Int)=x by omega]
  exact w64 h1.1 h1.2
theorem r34_num_val (n:Nat) {u:Nat} (h:u<18446744073709551616):r34_num (n+25) (u:Int)=some (toB (decI u)):=by
  rw[r34_num_eq]
  have hp:(18446744073709551616:Nat)≤10^(19+1):=by decide
  have h1:=r01_text n 19 u (by omega) h (by omega)
  have e:((0:Int),(u:Int))=ofN u:=by
    unfold ofN
    rw[Nat.div_eq_of_lt h,Nat.mod_eq_of_lt h];rfl
  rw[e,show n+24=n+19+5 by omega,h1,obs]
theorem r34_num_nt (n:Nat) {x:Int} (h0:0≤x) (hx:I64 x):r34_num (n+25) (IntKind.wrap .u64 x)=some (nt x):=by
  have:=hx.2
  rw[wu64 h0 (by omega),nt_nn h0]
  have h1:=r34_num_val n (u:=x.toNat) (by omega)
  rw[show ((x.toNat:Nat):Int)=x by omega] at h1
  exact h1
theorem r34_line (n:Nat) (r:RowT) (hw:EvW r.2):r34_Line (n+26) r=some (if LabOk r.1 then (if EvOk r.2 then (lineT r,0) else ([],2)) else ([],8)):=by
  rw[r34_Line_eq,r05_text (n+22) r.1,obs]
  by_cases hl:LabOk r.1
  · rw[if_pos hl,if_pos hl]
    have hlen:=textL_len hl
    simp only[tfd,decide_true,Bool.not_true,tff]
    rw[r07_check (n+24) hw,obs]
    by_cases he:EvOk r.2
    · rw[if_pos he,if_pos he]
      have hT:=hw.t
      have hC:=hw.c
      have hV:=hw.v
      have hTl:=nt_len hT
      have hCl:=nt_len hC
      have hVl:=dec_len hV.1 hV.2
      have nT:=r34_num_nt n he.t0 hT
      have nC:=r34_num_nt n he.c0 hC
      have nV:=r34_num_val n (u:=r.2.2.1.toNat) (by have:=hV.2;omega)
      rw[show ((r.2.2.1.toNat:Nat):Int)=r.2.2.1 by have:=hV.1;omega] at nV
      simp only[decide_true,Bool.not_true,tff]
      cases hst:r.2.2.2.2 with
      | true =>
        obtain ⟨hv0,hc0⟩:=he.st hst
        rw[tft,if_pos (by omega),nT,obs,if_pos (by omega),if_pos (by simp;omega),hc0,if_neg (by omega)]
        simp[lineT,evT,hst,hc0,wStale]
      | false =>
        rw[tff,nV,obs,if_pos (by omega),if_pos (by simp;omega),nT,obs,if_pos (by omega),if_pos (by simp;omega)]
        by_cases hc:0<r.2.2.2.1
        · rw[if_pos hc,nC,obs,if_pos (by omega),if_pos (by simp;omega)]
          simp[lineT,evT,hst,hc]
        · rw[if_neg hc]
          simp[lineT,evT,hst,hc]
    · rw[if_neg he,if_neg he]
      rfl
  · rw[if_neg hl,if_neg hl]
    rfl
theorem words34_l (n:Nat) (s:List UInt8) (hs:s.length≤1000000):∀(rest pre cur:List UInt8) (f:Nat) (out:List (List UInt8)) (a b:Int),s=pre++(cur++rest)→a=pre.length→b=((pre.length+cur.length:Nat):Int)→(32:UInt8) ∉ cur→out.length≤pre.length →
    r34_words_l4 n (f+rest.length+2) (s,out,a,b,())=some (.inl (out++splC 32 (cur++rest),())):=by
  intro rest
  induction rest with
  | nil =>
    intro pre cur f out a b h ha hb hc ho
    have hlen:=congrArg List.length h
    simp at hlen
    rw[r34_words_l4_eq,tfd,if_pos (by omega),tfd,if_pos (by omega),tfd,if_pos (by omega)]
    have c1:(decide ((((Int.toNat a):Nat):Int)≤b)&&decide (b≤((s.length:Nat):Int)))=true:=by simp;omega
    rw[c1,tft,tfd,if_pos (by omega),w64 (x:=b+1) (by omega) (by omega),r34_words_l4_eq,tfd,if_neg (by omega)]
    have e1:List.drop (Int.toNat a) (List.take (Int.toNat b) s)=cur:=by
      rw[ha,hb,Int.toNat_natCast,Int.toNat_natCast,h,List.append_nil,List.take_of_length_le (by simp),List.drop_left]
    rw[e1,List.append_nil,splC_no hc]
  | cons c rest ih =>
    intro pre cur f out a b h ha hb hc ho
    have hlen:=congrArg List.length h
    simp at hlen
    have hat:at? s b=some c:=at_mid (pre:=pre++cur) (rest:=rest) (by rw[h];simp) (by rw[hb];simp)
    rw[show f+(c::rest).length+2=(f+rest.length+2)+1 by simp;omega,r34_words_l4_eq,tfd,if_pos (by omega),tfd,if_neg (by omega),hat,obs,tfd,w64 (x:=b+1) (by omega) (by omega)]
    by_cases hq:((c.toNat:Nat):Int)=32
    · have hc32:c=32:=UInt8.toNat_inj.1 (by show _=32;omega)
      subst hc32
      have c1:(decide ((((Int.toNat a):Nat):Int)≤b)&&decide (b≤((s.length:Nat):Int)))=true:=by
        rw[Bool.and_eq_true,decide_eq_true_eq,decide_eq_true_eq]
        omega
      rw[if_pos hq,tfd,if_pos (by omega),c1,tft,tfd,if_pos (by omega)]
      have e1:List.drop (Int.toNat a) (List.take (Int.toNat b) s)=cur:=by
        rw[ha,hb,Int.toNat_natCast,Int.toNat_natCast,h,←List.append_assoc,show pre.length+cur.length=(pre++cur).length by simp,List.take_left,List.drop_left]
      rw[e1,ih (pre++cur++[32]) [] f (out++[cur]) (b+1) (b+1) (by rw[h];simp) (by rw[hb];simp<;>omega) (by rw[hb];simp<;>omega) (by simp) (by simp;omega),List.nil_append,splC_at rest hc]
      simp
    · rw[if_neg hq,ih pre (cur++[c]) f out a (b+1) (by rw[h];simp) ha (by rw[hb];simp;omega) (fun hm=>by
        rcases List.mem_append.1 hm with hm | hm
        · exact hc hm
        · rw[←List.mem_singleton.1 hm] at hq;exact hq rfl) ho]
      simp
theorem words34 (n:Nat) (s:List UInt8) (hs:s.length≤1000000):r34_words (n+1) s=some (splC 32 s):=by
  rw[r34_words_eq]
  have:=words34_l n s hs s [] [] (loopFuel-s.length-2) [] 0 0 rfl rfl rfl (by simp) (by simp)
  rw[show loopFuel-s.length-2+s.length+2=loopFuel by unfold loopFuel;omega] at this
  rw[this,obs,selim_inl]
  rfl
theorem value34_l (n:Nat) (s:List UInt8) (hs:s.length≤1000000):∀(rest pre:List UInt8) (f:Nat) (v i:Int),s=pre++rest→i=pre.length →
    r34_value_l3 n (f+rest.length+1) (s,v,i,())=some (.inl ((rest.take (20-pre.length)).foldl stV v,())):=by
  intro rest
  induction rest with
  | nil =>
    intro pre f v i h hi
    rw[r34_value_l3_eq]
    simp only[tfd,if_neg (idxe h hi rfl)]
    simp
  | cons c rest ih =>
    intro pre f v i h hi
    rw[show f+(c::rest).length+1=(f+rest.length+1)+1 by simp;omega,r34_value_l3_eq]
    simp only[tfd,if_pos (idx h hi rfl)]
    by_cases h20:i<20
    · obtain ⟨j,hj⟩:∃j,20-pre.length=j+1:=⟨19-pre.length,by omega⟩
      rw[if_pos h20,at_mid h hi,obs,idxw h hi (by omega)]
      have:=ih (pre++[c]) f (stV v c) (i+1) (idxl h) (idxs hi)
      rw[show 20-(pre++[c]).length=j by simp;omega] at this
      rw[hj,List.take_succ_cons,List.foldl_cons,←this]
      rfl
    · rw[if_neg h20,show 20-pre.length=0 by omega]
      rfl
theorem value34 (n:Nat) (s:List UInt8) (hs:s.length≤1000000):r34_value (n+1) s=some ((s.take 20).foldl stV 0):=by
  rw[r34_value_eq]
  have:=value34_l n s hs s [] (loopFuel-s.length-1) 0 0 rfl rfl
  rw[←lfu (by omega)] at this
  rw[this,obs,selim_inl]
  rfl
theorem last34_l (n:Nat) (s:List UInt8) (hs:s.length≤1000000) (q:RowT):∀(k f:Nat),k≤s.length→k<f →
    (r34_Parse_l2 n f (s,q,(k:Int)-1,())=some (.inl (s,q,-1,()))∧(125:UInt8) ∉ s.take k) ∨
    ∃a t,s.take k=a++125::t∧(125:UInt8) ∉ t∧r34_Parse_l2 n f (s,q,(k:Int)-1,())=some (.inl (s,q,(a.length:Int),())):=by
  intro k
  induction k with
  | zero =>
    intro f hk hf
    obtain ⟨f,rfl⟩:∃g,f=g+1:=⟨f-1,by omega⟩
    rw[r34_Parse_l2_eq,tfd,if_neg (by omega)]
    exact .inl ⟨rfl,by simp⟩
  | succ k ih =>
    intro f hk hf
    obtain ⟨f,rfl⟩:∃g,f=g+1:=⟨f-1,by omega⟩
    have hsk:s[k]? = some s[k]:=List.getElem?_eq_getElem (by omega)
    have hat:at? s (((k+1:Nat):Int)-1)=some s[k]:=by
      rw[show (((k+1:Nat):Int)-1)=(k:Int) by omega]
      unfold at?
      rw[show decide (0≤(k:Int))=true by simp]
      simp
    have htk:s.take (k+1)=s.take k++[s[k]]:=by
      rw[List.take_add_one,hsk];rfl
    rw[r34_Parse_l2_eq,tfd,if_pos (by omega),hat,obs,htk]
    by_cases hc:s[k]=125
    · have hcd:(!decide ((((s[k]).toNat:Nat):Int)=125))=false:=by rw[hc];rfl
      rw[hcd,tff]
      refine .inr ⟨s.take k,[],by rw[hc],by simp,?_⟩
      rw[List.length_take,show (((k+1:Nat):Int)-1)=(k:Int) by omega,show min k s.length=k by omega]
    · have hcn:(!decide ((((s[k]).toNat:Nat):Int)=125))=true:=by
        have:¬((((s[k]).toNat:Nat):Int)=125):=fun e=>hc (UInt8.toNat_inj.1 (by show _=125;omega))
        rw[decide_eq_false this];rfl
      rw[hcn,tft,w64 (by omega) (by omega),show (((k+1:Nat):Int)-1-1)=(k:Int)-1 by omega]
      rcases ih f (by omega) (by omega) with ⟨h1,h2⟩ | ⟨a,t,h1,h2,h3⟩
      · refine .inl ⟨h1,fun hm => ?_⟩
        rcases List.mem_append.1 hm with hm | hm
        · exact h2 hm
        · exact hc (List.mem_singleton.1 hm).symm
      · refine .inr ⟨a,t++[s[k]],by rw[h1,List.append_assoc];rfl,fun hm => ?_,h3⟩
        rcases List.mem_append.1 hm with hm | hm
        · exact h2 hm
        · exact hc (List.mem_singleton.1 hm).symm
noncomputable def takeR (s:List UInt8) (r:RowT):RowT×Int:=open Classical in if okR r∧lineT r=s then (r,0) else (z0R,4)
theorem fin34 (n:Nat) (r:RowT) (hw:EvW r.2) (s:List UInt8):obind (r34_Line (n+26) r) (fun q=>tif (!(decide (q.2=(0:Int)))) (some (z0R,(4:Int))) (tif (!(q.1==s)) (some (z0R,(4:Int))) (some (r,(0:Int)))))=some (takeR s r):=by
  rw[r34_line n r hw,obs]
  by_cases ho:okR r∧lineT r=s
  · have ht:takeR s r=(r,0):=by unfold takeR;rw[if_pos ho]
    rw[ht,if_pos ho.1.1,if_pos ho.1.2,ho.2]
    simp[tif_ite]
  · have ht:takeR s r=(z0R,4):=by unfold takeR;rw[if_neg ho]
    rw[ht]
    by_cases hl:LabOk r.1
    · rw[if_pos hl]
      by_cases he:EvOk r.2
      · rw[if_pos he]
        have hq:(lineT r==s)=false:=by
          cases h:(lineT r==s) with
          | false=>rfl
          | true=>exact absurd ⟨⟨hl,he⟩,eq_of_beq h⟩ ho
        rw[show ((lineT r,(0:Int)).1==s)=false from hq]
        rfl
      · rw[if_neg he];rfl
    · rw[if_neg hl];rfl
def guessE (L:List (List UInt8)):Ev :=
  let w1:=L.getD 1 []
  let c:Int:=match L.getD 3 [] with | []=>0 | _::t=>IntKind.wrap .i64 ((t.take 20).foldl stV 0)
  (IntKind.wrap .i64 (((L.getD 2 []).take 20).foldl stV 0),(if w1=wStale then 0 else (w1.take 20).foldl stV 0,(c,if w1=wStale then true else false)))
theorem guessE_w (L:List (List UInt8)):EvW (guessE L):=by
  have hz:(0:Int)≤0∧(0:Int)≤18446744073709551615:=by omega
  unfold guessE
  refine ⟨I64_wrap _,?_,?_⟩
  · dsimp only
    split
    · exact hz
    · exact foldV_range _ 0 hz
  · dsimp only
    split
    · exact i64z
    · exact I64_wrap _
theorem row_spec {s:List UInt8} {p:RowT×Int} (h1:p=(z0R,4)∨∃lab e,p=takeR s (lab,e)∧EvW e) (h2:∀r:RowT,okR r→EvW r.2→lineT r=s→p=(r,0)) :
    p=(match rowO s with | some r=>(r,0) | none=>(z0R,4)):=by
  cases h:rowO s with
  | some r =>
    obtain ⟨k1,k2,k3⟩:=rowO_some h
    exact h2 r k1 k2 k3
  | none =>
    rcases h1 with h1 | ⟨lab,e,h1,h3⟩
    · exact h1
    · rw[h1]
      unfold takeR
      split
      · rename_i hk
        have:=rowO_good hk.1 h3
        rw[hk.2,h] at this
        cases this
      · rfl
theorem lineT_cut {r:RowT} (h:okR r) {a t:List UInt8} (he:lineT r=a++125::t) (ht:(125:UInt8) ∉ t):a++[125]=textL r.1∧t=evT r.2:=by
  obtain ⟨A,hA⟩:∃A,textL r.1=A++[125]:=⟨bodyL 123 r.1,rfl⟩
  have hline:lineT r=A++125::evT r.2:=by
    unfold lineT;rw[hA];simp
  have hq:a++125::t=A++125::evT r.2:=by rw[←he,hline]
  have e1:=congrArg List.reverse hq
  simp only[List.reverse_append,List.reverse_cons,List.append_assoc,List.singleton_append] at e1
  have e2:=evT_brace h.2
  have g:=splC_at (c:=125) a.reverse (a:=t.reverse) (fun k=>ht (List.mem_reverse.1 k))
  have g2:=splC_at (c:=125) A.reverse (a:=(evT r.2).reverse) (fun k=>e2 (List.mem_reverse.1 k))
  rw[e1,g2] at g
  have g0:=List.reverse_inj.1 (List.cons.inj g).1
  refine ⟨?_,g0.symm⟩
  rw[←g0] at hq
  rw[hA,List.append_cancel_right hq]
theorem guess_good34 {e:Ev} (h:EvOk e) (hw:EvW e):guessE (splC 32 (evT e))=e:=by
  have hT:=nt_val h.t0 hw.t
  have hC:=nt_val h.c0 hw.c
  rw[evT_spl h]
  have hne:¬(toB (decI e.2.1.toNat)=wStale):=fun q=>absurd (show (115:UInt8)∈toB (decI e.2.1.toNat) by rw[q];simp[wStale]) (dec_no2 _ (by decide))
  have hV:((toB (decI e.2.1.toNat)).take 20).foldl stV 0=e.2.1:=by
    have hl:=dec_len hw.v.1 hw.v.2
    rw[List.take_of_length_le hl,foldV_dec _ _ (Nat.le_refl _) (by have:=hw.v.2;omega)]
    have:=hw.v.1;omega
  cases hst:e.2.2.2 with
  | true =>
    obtain ⟨hv0,hc0⟩:=h.st hst
    have hev:evV e=wStale:=by unfold evV;rw[if_pos hst]
    rw[if_neg (by omega),hev]
    refine Prod.ext ?_ (Prod.ext ?_ (Prod.ext ?_ ?_))
    · exact hT
    · show (if wStale=wStale then (0:Int) else (wStale.take 20).foldl stV 0)=_
      rw[if_pos rfl,hv0]
    · exact hc0.symm
    · show (if wStale=wStale then true else false)=_
      rw[if_pos rfl,hst]
  | false =>
    have hev:evV e=toB (decI e.2.1.toNat):=by unfold evV;rw[if_neg (by rw[hst];simp)]
    by_cases hc:0<e.2.2.1
    · rw[if_pos hc,hev]
      refine Prod.ext ?_ (Prod.ext ?_ (Prod.ext ?_ ?_))
      · exact hT
      · show (if toB (decI e.2.1.toNat)=wStale then (0:Int) else ((toB (decI e.2.1.toNat)).take 20).foldl stV 0)=_
        rw[if_neg hne];exact hV
      · exact hC
      · show (if toB (decI e.2.1.toNat)=wStale then true else false)=_
        rw[if_neg hne,hst]
    · rw[if_neg hc,hev]
      refine Prod.ext ?_ (Prod.ext ?_ (Prod.ext ?_ ?_))
      · exact hT
      · show (if toB (decI e.2.1.toNat)=wStale then (0:Int) else ((toB (decI e.2.1.toNat)).take 20).foldl stV 0)=_
        rw[if_neg hne];exact hV
      · show (0:Int)=e.2.2.1
        have:=h.c0;omega
      · show (if toB (decI e.2.1.toNat)=wStale then true else false)=_
        rw[if_neg hne,hst]
theorem g_st (w0 w2:List UInt8) (R:List (List UInt8)):guessE (w0::wStale::w2::R)=(IntKind.wrap .i64 ((w2.take 20).foldl stV 0),((0:Int),((match R.getD 0 [] with | []=>(0:Int) | _::t=>IntKind.wrap .i64 ((t.take 20).foldl stV 0)),true))):=by
  unfold guessE
  show (_,((if wStale=wStale then (0:Int) else _),(_,(if wStale=wStale then true else false))))=_
  rw[if_pos rfl,if_pos rfl]
  rfl
theorem g_no (w0 w1 w2:List UInt8) (R:List (List UInt8)) (h:¬w1=wStale):guessE (w0::w1::w2::R)=(IntKind.wrap .i64 ((w2.take 20).foldl stV 0),((w1.take 20).foldl stV 0,((match R.getD 0 [] with | []=>(0:Int) | _::t=>IntKind.wrap .i64 ((t.take 20).foldl stV 0)),false))):=by
  unfold guessE
  show (_,((if w1=wStale then (0:Int) else _),(_,(if w1=wStale then true else false))))=_
  rw[if_neg h,if_neg h]
  rfl
theorem r34_parse_row (n:Nat) (s:List UInt8) (hs:s.length≤100000):r34_Parse (n+27) s=some (match rowO s with | some r=>(r,0) | none=>(z0R,4)):=by
  have key:∃p:RowT×Int,r34_Parse (n+27) s=some p∧(p=(z0R,4)∨∃lab e,p=takeR s (lab,e)∧EvW e)∧∀r:RowT,okR r→EvW r.2→lineT r=s→p=(r,0):=by
    rw[r34_Parse_eq,w64 (by omega) (by omega)]
    have hV:∀w:List UInt8,w.length≤1000000→r34_value (n+26) w=some ((w.take 20).foldl stV 0):=fun w h=>value34 (n+25) w h
    rcases last34_l (n+26) s (by omega) z0R s.length loopFuel (Nat.le_refl _) (by unfold loopFuel;omega) with ⟨h1,h2⟩ | ⟨a,t,h1,h2,h3⟩
    · have h1:r34_Parse_l2 (n+26) loopFuel (s,(([]:List Lab),((0:Int),((0:Int),((0:Int),false)))),((s.length:Nat):Int)-1,())=some (.inl (s,z0R,-1,())):=h1
      rw[h1,obs,selim_inl]
      dsimp only
      rw[tfd,if_pos (by decide)]
      refine ⟨_,rfl,.inl rfl,fun r hr hw hl => ?_⟩
      exfalso
      refine h2 ?_
      rw[List.take_length,←hl]
      unfold lineT textL
      simp
    · have h3:r34_Parse_l2 (n+26) loopFuel (s,(([]:List Lab),((0:Int),((0:Int),((0:Int),false)))),((s.length:Nat):Int)-1,())=some (.inl (s,z0R,(a.length:Int),())):=h3
      rw[List.take_length] at h1
      have hlen:=congrArg List.length h1
      simp at hlen
      rw[h3,obs,selim_inl]
      dsimp only
      rw[tfd,if_neg (by omega),w64 (by omega) (by omega)]
      have c1:(decide ((0:Int)≤(a.length:Int)+1)&&decide ((a.length:Int)+1≤((s.length:Nat):Int)))=true:=by
        rw[Bool.and_eq_true,decide_eq_true_eq,decide_eq_true_eq]
        omega
      have e1:List.drop 0 (List.take (Int.toNat ((a.length:Int)+1)) s)=a++[125]:=by
        rw[show Int.toNat ((a.length:Int)+1)=(a++[(125:UInt8)]).length by simp,h1,show a++125::t=(a++[125])++t by simp,List.take_left];rfl
      have e2:List.drop (Int.toNat ((a.length:Int)+1)) (List.take s.length s)=t:=by
        rw[List.take_length,show Int.toNat ((a.length:Int)+1)=(a++[(125:UInt8)]).length by simp,h1,show a++125::t=(a++[125])++t by simp,List.drop_left]
      rw[c1,tft,e1,e2]
      obtain ⟨lab,hlab,hlab2⟩:=r05_parse_any (n+22) (a++[125]) (by simp;omega)
      rw[hlab,obs,tfd,if_pos (by omega),tfd,if_pos (by omega),words34 (n+25) t (by omega),obs]
      have good:∀r:RowT,okR r→EvW r.2→lineT r=s→lab=(r.1,0)∧guessE (splC 32 t)=r.2∧3≤(splC 32 t).length:=fun r hr hw hl=>by
        obtain ⟨q1,q2⟩:=lineT_cut hr (hl.trans h1) h2
        have:=r05_parse_text (n+22) hr.1
        rw[←q1,hlab] at this
        refine ⟨Option.some.inj this,by rw[q2];exact guess_good34 hr.2 hw,?_⟩
        rw[q2,evT_spl hr.2]
        split<;>simp
      have hm:∀w∈splC 32 t,w.length≤1000000:=fun w hw=>by have:=splC_mem t w hw;omega
      by_cases hl0:lab.2=0
      rotate_left
      · rw[decide_eq_false hl0,Bool.not_false,tft]
        exact ⟨_,rfl,.inl rfl,fun r hr hw hl=>absurd (by rw[(good r hr hw hl).1]) hl0⟩
      rw[decide_eq_true hl0,Bool.not_true,tff,tfd]
      by_cases h3:((((splC 32 t).length:Nat)):Int)<3
      · rw[if_pos h3]
        exact ⟨_,rfl,.inl rfl,fun r hr hw hl=>by have:=(good r hr hw hl).2.2;omega⟩
      rw[if_neg h3]
      have fin:∀z,z=some (takeR s (lab.1,guessE (splC 32 t)))→∃p:RowT×Int,z=some p∧(p=(z0R,4)∨∃lab e,p=takeR s (lab,e)∧EvW e)∧∀r:RowT,okR r→EvW r.2→lineT r=s→p=(r,0):=fun z hz=>by
        refine ⟨_,hz,.inr ⟨_,_,rfl,guessE_w _⟩,fun r hr hw hl => ?_⟩
        obtain ⟨q1,q2,_⟩:=good r hr hw hl
        rw[q1,q2]
        unfold takeR
        rw[if_pos ⟨hr,hl⟩]
      apply fin
      obtain ⟨L,hL⟩:∃L,L=splC 32 t:=⟨_,rfl⟩
      rw[←hL] at hm h3 ⊢
      match L,hm,h3 with
      | [],_,h3=>exact absurd (by simp) h3
      | [_],_,h3=>exact absurd (by simp) h3
      | [_,_],_,h3=>exact absurd (by simp) h3
      | w0::w1::w2::R,hm,_ =>
        have m1:=hm w1 (by simp)
        have m2:=hm w2 (by simp)
        have a1:at? (w0::w1::w2::R) 1=some w1:=rfl
        have a2:at? (w0::w1::w2::R) 2=some w2:=rfl
        rw[a1,a2]
        simp only[obs]
        rw[hV w1 m1]
        simp only[obs]
        rw[hV w2 m2]
        simp only[obs]
        cases hst:(w1==[(115:UInt8),116,97,108,101]) with
        | true =>
          have hw1:w1=wStale:=eq_of_beq hst
          subst hw1
          have hw:=guessE_w (w0::wStale::w2::R)
          rw[g_st] at hw ⊢
          rw[tft]
          match R,hm,hw with
          | [],_,hw =>
            rw[tfd,if_neg (by simp)]
            exact fin34 n _ hw s
          | []::R,_,hw =>
            rw[tfd,if_pos (by simp;omega),show at? (w0::wStale::w2::([]:List UInt8)::R) 3=some [] from rfl]
            simp only[obs]
            rw[tfd,if_neg (by simp)]
            exact fin34 n _ hw s
          | (c::t3)::R,hm,hw =>
            have m3:=hm (c::t3) (by simp)
            have hd:List.drop 1 (List.take (c::t3).length (c::t3))=t3:=by rw[List.take_length];rfl
            rw[tfd,if_pos (by simp;omega),show at? (w0::wStale::w2::(c::t3)::R) 3=some (c::t3) from rfl]
            simp only[obs]
            rw[tfd,if_pos (by simp),tfd,if_pos (by simp),hd,hV t3 (by simp at m3;omega)]
            simp only[obs]
            exact fin34 n _ hw s
        | false =>
          have hw1:¬w1=wStale:=fun e=>by
            have:(w1==[(115:UInt8),116,97,108,101])=true:=by rw[e];rfl
            rw[this] at hst;cases hst
          have hw:=guessE_w (w0::w1::w2::R)
          rw[g_no _ _ _ _ hw1] at hw ⊢
          rw[tff]
          match R,hm,hw with
          | [],_,hw =>
            rw[tfd,if_neg (by simp)]
            exact fin34 n _ hw s
          | []::R,_,hw =>
            rw[tfd,if_pos (by simp;omega),show at? (w0::w1::w2::([]:List UInt8)::R) 3=some [] from rfl]
            simp only[obs]
            rw[tfd,if_neg (by simp)]
            exact fin34 n _ hw s
          | (c::t3)::R,hm,hw =>
            have m3:=hm (c::t3) (by simp)
            have hd:List.drop 1 (List.take (c::t3).length (c::t3))=t3:=by rw[List.take_length];rfl
            rw[tfd,if_pos (by simp;omega),show at? (w0::w1::w2::(c::t3)::R) 3=some (c::t3) from rfl]
            simp only[obs]
            rw[tfd,if_pos (by simp),tfd,if_pos (by simp),hd,hV t3 (by simp at m3;omega)]
            simp only[obs]
            exact fin34 n _ hw s
  obtain ⟨p,h1,h2,h3⟩:=key
  rw[h1,row_spec h2 h3]
  all_goals (cases rowO s<;>rfl)
theorem linesF_split:∀(k:Nat) (s:List UInt8),s.length≤k→∀f,s.length<f→linesF f s=(splC 10 s).filter lineOk:=by
  intro k
  induction k with
  | zero =>
    intro s hs f hf
    have:s=[]:=List.eq_nil_of_length_eq_zero (by omega)
    subst this
    rw[linesF_nil]
    rfl
  | succ k ih =>
    intro s hs f hf
    obtain ⟨f,rfl⟩:∃x,f=x+1:=⟨f-1,by omega⟩
    rcases splitAt1 10 s with h | ⟨a,t,rfl,h⟩
    · rw[linesF_end h,splC_no h,List.filter_cons];rfl
    · simp at hs hf
      rw[linesF_at h,splC_at t h,ih t (by omega) f (by omega),List.filter_cons]
      split<;>simp
theorem line34_step {α:Type} (n:Nat) (cur:List UInt8) (hc:cur.length≤100000) (K:List RowT→Int→Option α) (out:List RowT) (others:Int) (ho:out.length≤100000) (h0:0≤others) (h1:others≤100000) :
    (tif (cur==[]) (K out others) (
  obind (at? cur (0:Int)) fun r1 =>
  tif ((decide ((((UInt8.toNat r1):Nat):Int)=(35:Int)))) (K out others) (
  obind (r34_Parse (n+27) cur) fun r2 =>
  tif ((decide (r2.2=(0:Int)))) (
  tif ((decide ((((List.length out)+1)*56)≤140737488355328))) (K (out++(r2.1::[])) others) (
  none)) (
  K out (IntKind.wrap .i64 (others+(1:Int)))))))=K (out++rowsL ([cur].filter lineOk)) (others+(badL ([cur].filter lineOk):Int)):=by
  cases cur with
  | nil =>
    rw[show ((([]:List UInt8)==([]:List UInt8)))=true from rfl,tft]
    have:[([]:List UInt8)].filter lineOk=[]:=rfl
    rw[this]
    simp[rowsL,badL]
  | cons c t =>
    rw[show ((c::t)==([]:List UInt8))=false from rfl,tff,show at? (c::t) 0=some c from rfl,obs]
    by_cases hc':((c.toNat:Nat):Int)=35
    · rw[decide_eq_true hc',tft]
      have:c=35:=UInt8.toNat_inj.1 (by show _=35;omega)
      subst this
      have:[(35:UInt8)::t].filter lineOk=[]:=by
        rw[List.filter_cons,if_neg (by simp[lineOk,Lib.hasPrefix,List.isPrefixOf])];rfl
      rw[this]
      simp[rowsL,badL]
    · rw[decide_eq_false hc',tff]
      have hok:lineOk (c::t)=true:=by
        have hne:¬c=35:=fun e=>hc' (by rw[e];rfl)
        have hne2:¬(35:UInt8)=c:=fun e=>hne e.symm
        simp[lineOk,Lib.hasPrefix,List.isPrefixOf,hne2]
      have hf:[c::t].filter lineOk=[c::t]:=by rw[List.filter_cons,if_pos hok];rfl
      rw[hf,r34_parse_row n (c::t) hc,obs]
      cases hr:rowO (c::t) with
      | some r =>
        dsimp only
        rw[tfd,if_pos rfl,tfd,if_pos (by omega)]
        simp[rowsL,badL,hr]
      | none =>
        dsimp only
        rw[tfd,if_neg (by decide),w64 (by omega) (by omega)]
        simp[rowsL,badL,hr]
theorem rowsL_app (L M:List (List UInt8)):rowsL (L++M)=rowsL L++rowsL M:=List.filterMap_append
theorem rowsL1_len (x:List UInt8):(rowsL ([x].filter lineOk)).length≤1:=by
  have:=rowsL_len ([x].filter lineOk)
  have:=List.length_filter_le lineOk [x]
  simp at this
  omega
theorem badL1 (x:List UInt8):badL ([x].filter lineOk)≤1:=by
  have:=badL_le ([x].filter lineOk)
  have:=List.length_filter_le lineOk [x]
  simp at this
  omega
theorem splC_fcons (a:List UInt8) (L:List (List UInt8)):(a::L).filter lineOk=[a].filter lineOk++L.filter lineOk:=by
  rw[←List.filter_append];rfl
theorem read34_l (n:Nat) (s:List UInt8) (hs:s.length≤90000):∀(rest pre cur:List UInt8) (f:Nat) (out:List RowT) (o a b:Int),s=pre++(cur++rest)→a=pre.length→b=((pre.length+cur.length:Nat):Int)→(10:UInt8) ∉ cur→out.length≤pre.length→0≤o→o≤pre.length →
    r34_Read_l4 (n+27) (f+rest.length+2) (s,out,o,a,b,())=some (.inl (out++rowsL ((splC 10 (cur++rest)).filter lineOk),o+(badL ((splC 10 (cur++rest)).filter lineOk):Int),())):=by
  intro rest
  induction rest with
  | nil =>
    intro pre cur f out o a b h ha hb hc ho h0 h1
    have hlen:=congrArg List.length h
    simp at hlen
    rw[r34_Read_l4_eq,tfd,if_pos (by omega),tfd,if_neg (by omega),tfd,if_pos (by omega)]
    have c1:(decide ((((Int.toNat a):Nat):Int)≤b)&&decide (b≤((s.length:Nat):Int)))=true:=by simp;omega
    have e1:List.drop (Int.toNat a) (List.take (Int.toNat b) s)=cur:=by
      rw[ha,hb,Int.toNat_natCast,Int.toNat_natCast,h,List.append_nil,List.take_of_length_le (by simp),List.drop_left]
    rw[c1,tft,e1,w64 (x:=b+1) (by omega) (by omega)]
    refine (line34_step n cur (by omega) (fun x y=>r34_Read_l4 (n+27) (f+([]:List UInt8).length+1) (s,x,y,b+1,b+1,())) out o (by omega) h0 (by omega)).trans ?_
    rw[r34_Read_l4_eq,tfd,if_neg (by omega),List.append_nil,splC_no hc]
  | cons c rest ih =>
    intro pre cur f out o a b h ha hb hc ho h0 h1
    have hlen:=congrArg List.length h
    simp at hlen
    have hat:at? s b=some c:=at_mid (pre:=pre++cur) (rest:=rest) (by rw[h];simp) (by rw[hb];simp)
    rw[show f+(c::rest).length+2=(f+rest.length+2)+1 by simp;omega,r34_Read_l4_eq,tfd,if_pos (by omega),tfd,if_pos (by omega),hat,obs,w64 (x:=b+1) (by omega) (by omega)]
    by_cases hq:((c.toNat:Nat):Int)=10
    · have hc10:c=10:=UInt8.toNat_inj.1 (by show _=10;omega)
      subst hc10
      have c1:(decide ((((Int.toNat a):Nat):Int)≤b)&&decide (b≤((s.length:Nat):Int)))=true:=by
        rw[Bool.and_eq_true,decide_eq_true_eq,decide_eq_true_eq]
        omega
      have e1:List.drop (Int.toNat a) (List.take (Int.toNat b) s)=cur:=by
        rw[ha,hb,Int.toNat_natCast,Int.toNat_natCast,h,←List.append_assoc,show pre.length+cur.length=(pre++cur).length by simp,List.take_left,List.drop_left]
      rw[decide_eq_true hq,Bool.not_true,tff,tfd,if_pos (by omega),c1,tft,e1]
      refine (line34_step n cur (by omega) (fun x y=>r34_Read_l4 (n+27) (f+rest.length+2) (s,x,y,b+1,b+1,())) out o (by omega) h0 (by omega)).trans ?_
      have q1:=rowsL1_len cur
      have q2:=badL1 cur
      rw[ih (pre++cur++[10]) [] f _ _ (b+1) (b+1) (by rw[h];simp) (by rw[hb];simp<;>omega) (by rw[hb];simp<;>omega) (by simp) (by simp;omega) (by omega) (by simp;omega),List.nil_append,splC_at rest hc,splC_fcons cur (splC 10 rest),rowsL_app,badL_app,List.append_assoc,Int.natCast_add,Int.add_assoc]
    · rw[decide_eq_false hq,Bool.not_false,tft,ih pre (cur++[c]) f out o a (b+1) (by rw[h];simp) ha (by rw[hb];simp;omega) (fun hm=>by
        rcases List.mem_append.1 hm with hm | hm
        · exact hc hm
        · rw[←List.mem_singleton.1 hm] at hq;exact hq rfl) ho h0 h1]
      simp
theorem r34_read (n:Nat) (s:List UInt8) (hs:s.length≤90000):r34_Read (n+28) s=some (rowsL (linesF (s.length+1) s),(badL (linesF (s.length+1) s):Int)):=by
  rw[r34_Read_eq]
  have:=read34_l n s hs s [] [] (loopFuel-s.length-2) [] 0 0 0 rfl rfl rfl (by simp) (by simp) (by simp) (by simp)
  rw[show loopFuel-s.length-2+s.length+2=loopFuel by unfold loopFuel;omega] at this
  rw[this,obs,selim_inl,linesF_split s.length s (Nat.le_refl _) _ (Nat.lt_succ_self _)]
  simp
noncomputable def lineR (r:RowT):List UInt8×Int:=if LabOk r.1 then (if EvOk r.2 then (lineT r,0) else ([],2)) else ([],8)
theorem lineR_ok {r:RowT} (h:okR r):lineR r=(lineT r,0):=by unfold lineR;rw[if_pos h.1,if_pos h.2]
theorem lineR_no {r:RowT} (h:¬okR r):∃w,w≠0∧lineR r=([],w):=by
  unfold lineR
  by_cases hl:LabOk r.1
  · rw[if_pos hl,if_neg (fun k=>h ⟨hl,k⟩)];exact ⟨2,by decide,rfl⟩
  · rw[if_neg hl];exact ⟨8,by decide,rfl⟩
noncomputable def allR:List UInt8→List RowT→List UInt8×Int
  | A,[]=>(A,0)
  | A,r::l=>if (lineR r).2=0 then allR (A++((lineR r).1++[10])) l else ([],(lineR r).2)
theorem lineR_len {r:RowT} (hw:EvW r.2):(lineR r).1.length≤10100:=by
  by_cases h:okR r
  · rw[lineR_ok h];exact lineT_len h hw
  · obtain ⟨w,_,h⟩:=lineR_no h
    rw[h];simp
theorem text_all_l (n:Nat) (l:List RowT) (hl:l.length≤100000) (hw:∀r∈l,EvW r.2):∀(rest pre:List RowT) (f:Nat) (A:List UInt8) (i:Int),l=pre++rest→i=pre.length→A.length≤20000*pre.length →
    ∃z,text_All_l3 (n+8) (f+rest.length+1) (A,l,(l.length:Int),i,())=some z∧selim (fun y1=>obind (strings_Builder_String (n+8) y1.1) fun r2=>some (r2.1,(0:Int))) (fun z3=>some z3) z=some (allR A rest):=by
  intro rest
  induction rest with
  | nil =>
    intro pre f A i h hi hA
    rw[text_All_l3_eq]
    simp only[tfd,if_neg (idxe h hi rfl)]
    refine ⟨_,rfl,?_⟩
    rw[selim_inl,strings_Builder_String_eq,obs]
    rfl
  | cons a rest ih =>
    intro pre f A i h hi hA
    have hlen:=congrArg List.length h
    simp at hlen
    have ha:=hw a (by rw[h];simp)
    have hll:=lineR_len ha
    rw[show f+(a::rest).length+1=(f+rest.length+1)+1 by simp;omega,text_All_l3_eq]
    simp only[tfd,if_pos (idx h hi rfl)]
    rw[at_mid h hi,obs,text_line n a ha,obs,w64 (x:=i+1) (by omega) (by omega)]
    rw[show (if LabOk a.1 then (if EvOk a.2 then (lineT a,(0:Int)) else ([],2)) else ([],8))=lineR a from rfl]
    have hun:allR A (a::rest)=if (lineR a).2=0 then allR (A++((lineR a).1++[10])) rest else ([],(lineR a).2):=rfl
    rw[hun]
    by_cases h2:(lineR a).2=0
    · rw[decide_eq_true h2,Bool.not_true,tff,if_pos h2,wst (n+7) A _ (by omega),obs]
      dsimp only
      rw[wb (c:=10) (u:=10) (n+7) _ rfl (by simp;omega),obs]
      dsimp only
      obtain ⟨z,z1,z2⟩:=ih (pre++[a]) f (A++(lineR a).1++[10]) (i+1) (idxl h) (idxs hi) (by simp;omega)
      exact ⟨z,z1,by rw[z2];simp⟩
    · rw[decide_eq_false h2,Bool.not_false,tft,if_neg h2]
      exact ⟨_,rfl,rfl⟩
theorem text_all (n:Nat) (l:List RowT) (hl:l.length≤100000) (hw:∀r∈l,EvW r.2):text_All (n+9) l=some (allR [] l):=by
  rw[text_All_eq]
  obtain ⟨z,z1,z2⟩:=text_all_l n l hl hw l [] (loopFuel-l.length-1) [] 0 rfl rfl (by simp)
  rw[←lfu (by omega)] at z1
  rw[z1,obs]
  exact z2
theorem r34_all_l (n:Nat) (l:List RowT) (hl:l.length≤100000) (hw:∀r∈l,EvW r.2):∀(rest pre:List RowT) (f:Nat) (A:List UInt8) (i:Int),l=pre++rest→i=pre.length→A.length≤20000*pre.length →
    ∃z,r34_All_l3 (n+26) (f+rest.length+1) (A,l,(l.length:Int),i,())=some z∧selim (fun y1=>some (y1.1,(0:Int))) (fun z3=>some z3) z=some (allR A rest):=by
  intro rest
  induction rest with
  | nil =>
    intro pre f A i h hi hA
    rw[r34_All_l3_eq]
    simp only[tfd,if_neg (idxe h hi rfl)]
    exact ⟨_,rfl,rfl⟩
  | cons a rest ih =>
    intro pre f A i h hi hA
    have hlen:=congrArg List.length h
    simp at hlen
    have ha:=hw a (by rw[h];simp)
    have hll:=lineR_len ha
    rw[show f+(a::rest).length+1=(f+rest.length+1)+1 by simp;omega,r34_All_l3_eq]
    simp only[tfd,if_pos (idx h hi rfl)]
    rw[at_mid h hi,obs,r34_line n a ha,obs,w64 (x:=i+1) (by omega) (by omega)]
    rw[show (if LabOk a.1 then (if EvOk a.2 then (lineT a,(0:Int)) else ([],2)) else ([],8))=lineR a from rfl]
    have hun:allR A (a::rest)=if (lineR a).2=0 then allR (A++((lineR a).1++[10])) rest else ([],(lineR a).2):=rfl
    rw[hun]
    by_cases h2:(lineR a).2=0
    · rw[decide_eq_true h2,Bool.not_true,tff,if_pos h2,if_pos (by omega),if_pos (by simp;omega)]
      exact ih (pre++[a]) f (A++((lineR a).1++[10])) (i+1) (idxl h) (idxs hi) (by simp;omega)
    · rw[decide_eq_false h2,Bool.not_false,tft,if_neg h2]
      exact ⟨_,rfl,rfl⟩
theorem r34_all (n:Nat) (l:List RowT) (hl:l.length≤100000) (hw:∀r∈l,EvW r.2):r34_All (n+27) l=some (allR [] l):=by
  rw[r34_All_eq]
  obtain ⟨z,z1,z2⟩:=r34_all_l n l hl hw l [] (loopFuel-l.length-1) [] 0 rfl rfl (by simp)
  rw[←lfu (by omega)] at z1
  rw[z1,obs]
  exact z2
theorem rowEq (a b:Ev):(decide (a.1=b.1)&&(decide (a.2.1=b.2.1)&&(decide (a.2.2.1=b.2.2.1)&&(a.2.2.2==b.2.2.2))))=decide (a=b):=by
  rw[Bool.eq_iff_iff]
  simp only[Bool.and_eq_true,decide_eq_true_eq,Prod.ext_iff,beq_iff_eq]
theorem text_same (n:Nat) (a b:RowT) (hl:a.1.length≤1000000):text_Same (n+3) a b=some (decide (a=b)):=by
  rw[text_Same_eq,label_Same_eq,sameS n _ _ (by omega),obs,obs,rowEq]
  by_cases h1:a.1=b.1
  · rw[decide_eq_true h1,tft]
    congr 1
    rw[Bool.eq_iff_iff]
    simp only[decide_eq_true_eq]
    exact ⟨fun h=>Prod.ext h1 h,fun h=>by rw[h]⟩
  · rw[decide_eq_false h1,tff,decide_eq_false (fun h=>h1 (by rw[h]))]
theorem r34_same2 (n:Nat) (a b:RowT) (hl:a.1.length≤1000000):r34_Same (n+2) a b=some (decide (a=b)):=by
  rw[r34_Same_eq,same5 n a.1 b.1 (by omega),obs,rowEq]
  by_cases h1:a.1=b.1
  · rw[decide_eq_true h1,tft]
    congr 1
    rw[Bool.eq_iff_iff]
    simp only[decide_eq_true_eq]
    exact ⟨fun h=>Prod.ext h1 h,fun h=>by rw[h]⟩
  · rw[decide_eq_false h1,tff,decide_eq_false (fun h=>h1 (by rw[h]))]
theorem tells12_l (n:Nat) (l:List RowT) (hl:l.length≤60) (hw:∀r∈l,EvW r.2∧r.1.length≤40):∀(rest pre:List RowT) (f:Nat) (i:Int),l=pre++rest→i=pre.length →
    l34_TextTells_l12 (n+26) (f+rest.length+1) (l,l,(l.length:Int),i,())=some (.inl ()):=by
  intro rest
  induction rest with
  | nil =>
    intro pre f i h hi
    rw[l34_TextTells_l12_eq]
    simp only[tfd,if_neg (idxe h hi rfl)]
  | cons a rest ih =>
    intro pre f i h hi
    have hlen:=congrArg List.length h
    simp at hlen
    have ha:=hw a (by rw[h];simp)
    obtain ⟨r0,hr0⟩:∃r0,at? l 0=some r0:=by
      cases l with
      | nil=>simp at h
      | cons x l=>exact ⟨x,rfl⟩
    rw[show f+(a::rest).length+1=(f+rest.length+1)+1 by simp;omega,l34_TextTells_l12_eq]
    simp only[tfd,if_pos (idx h hi rfl)]
    rw[at_mid h hi,obs,text_line (n+18) a ha.1,obs,r34_line n a ha.1,obs]
    simp only[beq_self_eq_true,Bool.not_true,tff,decide_true]
    rw[hr0,obs,text_same (n+23) a r0 (by omega),obs,obs,r34_same2 (n+24) a r0 (by omega),obs]
    simp only[beq_self_eq_true,Bool.not_true,tff]
    rw[if_neg (by omega),w64 (x:=i+1) (by omega) (by omega),ih (pre++[a]) f (i+1) (idxl h) (idxs hi)]
theorem rowsL_small (L:List (List UInt8)):∀r∈rowsL L,okR r:=by
  intro r hr
  obtain ⟨s,_,hs⟩:=List.mem_filterMap.1 hr
  exact (rowO_some hs).1
theorem textTells_true (n:Nat) (hlv:l34_lives (n+49)=some true) (l:List RowT) (line all:List UInt8) (hw:Wf (.slice tyRow) l):l34_TextTells (n+50) l line all=some true:=by
  have hll:l.length≤9223372036854775807:=hw.1
  have hlw:∀r∈l,Wf tyRow r:=hw.2
  rw[l34_TextTells_eq,hlv,obs]
  rcases small34 (n+47) l hll (fun r hr=>(hlw r hr).1.1) with h | ⟨h,hl,h40⟩
  · rw[h,obs,tfd,if_pos rfl]
  rw[h,obs,tfd,if_neg (by decide),tfd]
  by_cases h1:(4096:Int)<((line.length:Nat):Int)
  · rw[if_pos h1]
  rw[if_neg h1,tfd]
  by_cases h2:(16384:Int)<((all.length:Nat):Int)
  · rw[if_pos h2]
  have hwe:∀r∈l,EvW r.2:=fun r hr=>row_wf (hlw r hr)
  have hL:∀x∈linesF (all.length+1) all,x.length≤100000:=fun x hx=>by have:=linesF_mem _ _ _ hx;omega
  have hn:=linesF_len (all.length+1) all
  have hg:=rowsL_len (linesF (all.length+1) all)
  have hgl:∀r∈rowsL (linesF (all.length+1) all),r.1.length≤1000000:=fun r hr=>by
    have:=(rowsL_small _ r hr).1.n1
    omega
  obtain ⟨p,hp1,hp2,hp3⟩:∃p:RowT×Int,text_Parse (n+49) line=some p∧r34_Parse (n+49) line=some p∧p.1.1.length≤1000000:=by
    rw[text_parse_row (n+40) line (by omega),r34_parse_row (n+22) line (by omega)]
    cases hr:rowO line with
    | none=>exact ⟨_,rfl,rfl,by simp[z0R]⟩
    | some r =>
      have:=(rowO_some hr).1.1.n1
      exact ⟨_,rfl,rfl,by dsimp only;omega⟩
  rw[if_neg h2,text_all (n+40) l (by omega) hwe,obs,r34_all (n+22) l (by omega) hwe,obs,hp1,obs,hp2,obs,text_read (n+39) all (by omega) hL (by omega),obs,r34_read (n+21) all (by omega),obs]
  simp only[beq_self_eq_true,Bool.not_true,tff,decide_true]
  rw[r34_same (n+47) p.1 hp3,obs,Bool.not_true,tff,r34_list (n+46) _ (by omega) hgl,obs,Bool.not_true,tff]
  have:=tells12_l (n+23) l hl (fun r hr=>⟨hwe r hr,h40 r hr⟩) l [] (loopFuel-l.length-1) 0 rfl rfl
  rw[←lfu (by omega)] at this
  rw[this,obs,selim_inl]
end Go.Proofs.YtjionkknnajjgaaGreatDoor
namespace Go.Proofs.YtjionkknnajjgaaGreatDoor
open Go.Flat
theorem ob {α β:Type} {o:Option α} {x:α} {f:α→Option β} {r:Option β} (h:o=some x) (k:f x=r):obind o f=r:=by rw[h];exact k
theorem tt {α:Type} {b:Bool} {x y r:α} (h:b=true) (k:x=r):tif b x y=r:=by rw[h];exact k
theorem tf {α:Type} {b:Bool} {x y r:α} (h:b=false) (k:y=r):tif b x y=r:=by rw[h];exact k
end Go.Proofs.YtjionkknnajjgaaGreatDoor
namespace Go.Proofs.YtjionkknnajjgaaGreatDoor
open Go.Flat
set_option linter.unusedVariables false
theorem lvl34_lives_eq (n:Nat)  : l34_lives (n+1)  =
  obind (text_All n ((((((97:UInt8)::[]),((120:UInt8)::((125:UInt8)::[])))::[]),((7:Int),((5:Int),((3:Int),false))))::((((((97:UInt8)::[]),((120:UInt8)::((125:UInt8)::[])))::[]),((8:Int),((0:Int),((0:Int),true))))::[]))) fun r0 =>
  tif ((decide ((((List.length r0.1):Nat):Int)=(0:Int)))) (
  some false) (
  tif ((decide ((4+(List.length r0.1))≤9223372036854775807))) (
  tif ((decide (((List.length (((35:UInt8)::((32:UInt8)::((120:UInt8)::((10:UInt8)::[]))))++r0.1))+5)≤9223372036854775807))) (
  tif (((decide ((0:Int)≤(IntKind.wrap .i64 ((((List.length r0.1):Nat):Int)-(1:Int)))))&&(decide ((IntKind.wrap .i64 ((((List.length r0.1):Nat):Int)-(1:Int)))≤(((List.length r0.1):Nat):Int))))) (
  tif ((decide (((List.length ((((35:UInt8)::((32:UInt8)::((120:UInt8)::((10:UInt8)::[]))))++r0.1)++((10:UInt8)::((102:UInt8)::((111:UInt8)::((111:UInt8)::((10:UInt8)::[])))))))+(List.length (List.drop 0 (List.take (Int.toNat (IntKind.wrap .i64 ((((List.length r0.1):Nat):Int)-(1:Int)))) r0.1))))≤9223372036854775807))) (
  obind (text_Read n (((((35:UInt8)::((32:UInt8)::((120:UInt8)::((10:UInt8)::[]))))++r0.1)++((10:UInt8)::((102:UInt8)::((111:UInt8)::((111:UInt8)::((10:UInt8)::[]))))))++(List.drop 0 (List.take (Int.toNat (IntKind.wrap .i64 ((((List.length r0.1):Nat):Int)-(1:Int)))) r0.1)))) fun r1 =>
  obind (text_Parse n ((123:UInt8)::((97:UInt8)::((61:UInt8)::((34:UInt8)::((120:UInt8)::((125:UInt8)::((34:UInt8)::((125:UInt8)::((32:UInt8)::((53:UInt8)::((32:UInt8)::((55:UInt8)::((32:UInt8)::((99:UInt8)::((51:UInt8)::[])))))))))))))))) fun r2 =>
  obind (text_Parse n ((123:UInt8)::((97:UInt8)::((61:UInt8)::((34:UInt8)::((120:UInt8)::((125:UInt8)::((34:UInt8)::((125:UInt8)::((32:UInt8)::((53:UInt8)::((32:UInt8)::((55:UInt8)::((32:UInt8)::((99:UInt8)::((48:UInt8)::[])))))))))))))))) fun r3 =>
  obind (text_Line n (((((97:UInt8)::[]),((120:UInt8)::((125:UInt8)::[])))::[]),(((-1):Int),((0:Int),((0:Int),false))))) fun r4 =>
  obind (text_Line n ([],((0:Int),((0:Int),((0:Int),false))))) fun r5 =>
  tif ((r0.1==((123:UInt8)::((97:UInt8)::((61:UInt8)::((34:UInt8)::((120:UInt8)::((125:UInt8)::((34:UInt8)::((125:UInt8)::((32:UInt8)::((53:UInt8)::((32:UInt8)::((55:UInt8)::((32:UInt8)::((99:UInt8)::((51:UInt8)::((10:UInt8)::((123:UInt8)::((97:UInt8)::((61:UInt8)::((34:UInt8)::((120:UInt8)::((125:UInt8)::((34:UInt8)::((125:UInt8)::((32:UInt8)::((115:UInt8)::((116:UInt8)::((97:UInt8)::((108:UInt8)::((101:UInt8)::((32:UInt8)::((56:UInt8)::((10:UInt8)::[]))))))))))))))))))))))))))))))))))) (
  tif ((decide (r0.2=(0:Int)))) (
  tif ((decide ((((List.length r1.1):Nat):Int)=(4:Int)))) (
  tif ((decide (r1.2=(1:Int)))) (
  obind (at? r1.1 (0:Int)) fun r6 =>
  obind (text_Same n r6 (((((97:UInt8)::[]),((120:UInt8)::((125:UInt8)::[])))::[]),((7:Int),((5:Int),((3:Int),false))))) fun r7 =>
  tif (r7) (
  obind (at? r1.1 (3:Int)) fun r8 =>
  obind (text_Same n r8 (((((97:UInt8)::[]),((120:UInt8)::((125:UInt8)::[])))::[]),((8:Int),((0:Int),((0:Int),true))))) fun r9 =>
  tif (r9) (
  obind (text_Same n r2.1 (((((97:UInt8)::[]),((120:UInt8)::((125:UInt8)::[])))::[]),((7:Int),((5:Int),((3:Int),false))))) fun r10 =>
  tif (r10) (
  tif ((decide (r2.2=(0:Int)))) (
  tif ((decide (r3.2=(4:Int)))) (
  tif ((decide (r4.2=(2:Int)))) (
  tif ((decide (r5.2=(8:Int)))) (
  obind (text_Same n (((((97:UInt8)::[]),((120:UInt8)::((125:UInt8)::[])))::[]),((7:Int),((5:Int),((3:Int),false)))) (((((97:UInt8)::[]),((120:UInt8)::((125:UInt8)::[])))::[]),((8:Int),((0:Int),((0:Int),true))))) fun r11 =>
  some (!r11)) (
  some false)) (
  some false)) (
  some false)) (
  some false)) (
  some false)) (
  some false)) (
  some false)) (
  some false)) (
  some false)) (
  some false)) (
  some false)) (
  none)) (
  none)) (
  none)) (
  none)):=by kernel_rfl
theorem lvl34_lives_0 (n:Nat):text_All (n+39) [([([97],[120,125])],(7,(5,(3,false)))),([([97],[120,125])],(8,(0,(0,true))))]=some ([123,97,61,34,120,125,34,125,32,53,32,55,32,99,51,10,123,97,61,34,120,125,34,125,32,115,116,97,108,101,32,56,10],0):=by kernel_rfl
theorem lvl34_lives_1 (n:Nat):text_Read (n+39) [35,32,120,10,123,97,61,34,120,125,34,125,32,53,32,55,32,99,51,10,123,97,61,34,120,125,34,125,32,115,116,97,108,101,32,56,10,10,102,111,111,10,123,97,61,34,120,125,34,125,32,53,32,55,32,99,51,10,123,97,61,34,120,125,34,125,32,115,116,97,108,101,32,56]=some ([([([97],[120,125])],(7,(5,(3,false)))),([([97],[120,125])],(8,(0,(0,true)))),([([97],[120,125])],(7,(5,(3,false)))),([([97],[120,125])],(8,(0,(0,true))))],1):=by kernel_rfl
theorem lvl34_lives_2 (n:Nat):text_Parse (n+39) [123,97,61,34,120,125,34,125,32,53,32,55,32,99,51]=some (([([97],[120,125])],(7,(5,(3,false)))),0):=by kernel_rfl
theorem lvl34_lives_3 (n:Nat):text_Parse (n+39) [123,97,61,34,120,125,34,125,32,53,32,55,32,99,48]=some (([],(0,(0,(0,false)))),4):=by kernel_rfl
theorem lvl34_lives_4 (n:Nat):text_Line (n+39) ([([97],[120,125])],((-1),(0,(0,false))))=some ([],2):=by kernel_rfl
theorem lvl34_lives_5 (n:Nat):text_Line (n+39) ([],(0,(0,(0,false))))=some ([],8):=by kernel_rfl
theorem lvl34_lives_6 (n:Nat):text_Same (n+39) ([([97],[120,125])],(7,(5,(3,false)))) ([([97],[120,125])],(7,(5,(3,false))))=some true:=by kernel_rfl
theorem lvl34_lives_7 (n:Nat):text_Same (n+39) ([([97],[120,125])],(8,(0,(0,true)))) ([([97],[120,125])],(8,(0,(0,true))))=some true:=by kernel_rfl
theorem lvl34_lives_8 (n:Nat):text_Same (n+39) ([([97],[120,125])],(7,(5,(3,false)))) ([([97],[120,125])],(8,(0,(0,true))))=some false:=by kernel_rfl
theorem l34_lives_true (n:Nat):l34_lives (n+40)=some true:=by
  rw[lvl34_lives_eq]
  refine ob (lvl34_lives_0 n) ?_
  refine tf (by kernel_rfl) ?_
  refine tt (by kernel_rfl) ?_
  refine tt (by kernel_rfl) ?_
  refine tt (by kernel_rfl) ?_
  refine tt (by kernel_rfl) ?_
  refine ob (lvl34_lives_1 n) ?_
  refine ob (lvl34_lives_2 n) ?_
  refine ob (lvl34_lives_3 n) ?_
  refine ob (lvl34_lives_4 n) ?_
  refine ob (lvl34_lives_5 n) ?_
  refine tt (by kernel_rfl) ?_
  refine tt (by kernel_rfl) ?_
  refine tt (by kernel_rfl) ?_
  refine tt (by kernel_rfl) ?_
  refine ob (x:=([([97],[120,125])],(7,(5,(3,false))))) (by kernel_rfl) ?_
  refine ob (lvl34_lives_6 n) ?_
  refine tt (by kernel_rfl) ?_
  refine ob (x:=([([97],[120,125])],(8,(0,(0,true))))) (by kernel_rfl) ?_
  refine ob (lvl34_lives_7 n) ?_
  refine tt (by kernel_rfl) ?_
  refine ob (lvl34_lives_6 n) ?_
  refine tt (by kernel_rfl) ?_
  refine tt (by kernel_rfl) ?_
  refine tt (by kernel_rfl) ?_
  refine tt (by kernel_rfl) ?_
  refine tt (by kernel_rfl) ?_
  refine ob (lvl34_lives_8 n) ?_
  kernel_rfl
end Go.Proofs.YtjionkknnajjgaaGreatDoor
namespace Go.Proofs.YtjionkknnajjgaaGreatDoor
open Go.Flat Go.Plim
theorem textTells_law (l:List RowT) (line all:List UInt8) (hl:Wf (.slice tyRow) l):l34_TextTells 50 l line all=some true:=textTells_true 0 (l34_lives_true 9) l line all hl
end Go.Proofs.YtjionkknnajjgaaGreatDoor
