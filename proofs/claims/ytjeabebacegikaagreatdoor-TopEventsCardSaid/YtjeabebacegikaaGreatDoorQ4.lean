/-
  Plain proofs about the functions of this seat, part 4 of 4.
-/
import Derived.Test.YtjeabebacegikaaGreatDoorQ3
import Derived.Test.YtjeabebacegikaaGreatDoorTr
namespace Go.Proofs.YtjeabebacegikaaGreatDoor
open Go.Flat
set_option linter.unusedVariables false
theorem lvtop_begins11_eq (n:Nat)  : top_begins11 (n+1)  =
  obind (l10_Fit n ) fun r0 =>
  obind (stt_New n r0) fun r1 =>
  tif ((!(decide (r1.2=(0:Int))))) (
  some false) (
  obind (write_One n r1.1 ((((97:UInt8)::[]),[])::[]) ((2:Int),((1:Int),((0:Int),false)))) fun r2 =>
  obind (query_Do n r2.1 (((((97:UInt8)::[]),[])::[]),((1:Int),((0:Int),(10:Int))))) fun r3 =>
  obind (sweep_Do n r2.1) fun r4 =>
  tif ((decide (r2.2=(0:Int)))) (
  tif ((decide (r3.2=(0:Int)))) (
  tif ((decide (r3.1.1=(1:Int)))) (
  tif ((decide (r3.1.2.1.1=(1:Int)))) (
  tif ((decide (r4.2.1=(0:Int)))) (
  tif ((decide (r4.2.2=(0:Int)))) (
  some (decide (r4.1.2.2.1=(0:Int)))) (
  some false)) (
  some false)) (
  some false)) (
  some false)) (
  some false)) (
  some false)):=by kernel_rfl
theorem lvtop_begins11_0 (n:Nat):l10_Fit (n+39)=some (20,((10,(20,60)),((4,(5,6)),(3,9)))):=by kernel_rfl
theorem lvtop_begins11_1 (n:Nat):stt_New (n+39) (20,((10,(20,60)),((4,(5,6)),(3,9))))=some (((20,((10,(20,60)),((4,(5,6)),(3,9)))),(0,((-1),[([],(0,((0,(0,[])),(([],([],[])),(0,(0,((0,(0,(0,false))),((0,(0,(0,false))),((0,0),(0,(0,0))))))))))),([],(0,((0,(0,[])),(([],([],[])),(0,(0,((0,(0,(0,false))),((0,(0,(0,false))),((0,0),(0,(0,0))))))))))),([],(0,((0,(0,[])),(([],([],[])),(0,(0,((0,(0,(0,false))),((0,(0,(0,false))),((0,0),(0,(0,0)))))))))))]))),0):=by kernel_rfl
theorem lvtop_begins11_2 (n:Nat):write_One (n+39) ((20,((10,(20,60)),((4,(5,6)),(3,9)))),(0,((-1),[([],(0,((0,(0,[])),(([],([],[])),(0,(0,((0,(0,(0,false))),((0,(0,(0,false))),((0,0),(0,(0,0))))))))))),([],(0,((0,(0,[])),(([],([],[])),(0,(0,((0,(0,(0,false))),((0,(0,(0,false))),((0,0),(0,(0,0))))))))))),([],(0,((0,(0,[])),(([],([],[])),(0,(0,((0,(0,(0,false))),((0,(0,(0,false))),((0,0),(0,(0,0)))))))))))]))) [([97],[])] (2,(1,(0,false)))=some (((20,((10,(20,60)),((4,(5,6)),(3,9)))),(0,((-1),[([([97],[])],(2,((0,(0,[(2,(1,(0,false)))])),(([(0,(0,((0,(0,(0,false))),((0,(0,(0,false))),((0,0),(0,(0,0))))))),(0,(0,((0,(0,(0,false))),((0,(0,(0,false))),((0,0),(0,(0,0))))))),(0,(0,((0,(0,(0,false))),((0,(0,(0,false))),((0,0),(0,(0,0))))))),(0,(0,((0,(0,(0,false))),((0,(0,(0,false))),((0,0),(0,(0,0)))))))],([(0,(0,((0,(0,(0,false))),((0,(0,(0,false))),((0,0),(0,(0,0))))))),(0,(0,((0,(0,(0,false))),((0,(0,(0,false))),((0,0),(0,(0,0))))))),(0,(0,((0,(0,(0,false))),((0,(0,(0,false))),((0,0),(0,(0,0))))))),(0,(0,((0,(0,(0,false))),((0,(0,(0,false))),((0,0),(0,(0,0))))))),(0,(0,((0,(0,(0,false))),((0,(0,(0,false))),((0,0),(0,(0,0)))))))],[(0,(0,((0,(0,(0,false))),((0,(0,(0,false))),((0,0),(0,(0,0))))))),(0,(0,((0,(0,(0,false))),((0,(0,(0,false))),((0,0),(0,(0,0))))))),(0,(0,((0,(0,(0,false))),((0,(0,(0,false))),((0,0),(0,(0,0))))))),(0,(0,((0,(0,(0,false))),((0,(0,(0,false))),((0,0),(0,(0,0))))))),(0,(0,((0,(0,(0,false))),((0,(0,(0,false))),((0,0),(0,(0,0))))))),(0,(0,((0,(0,(0,false))),((0,(0,(0,false))),((0,0),(0,(0,0)))))))])),(0,(1,((2,(1,(0,false))),((2,(1,(0,false))),((0,0),(0,(0,0))))))))))),([],(0,((0,(0,[])),(([],([],[])),(0,(0,((0,(0,(0,false))),((0,(0,(0,false))),((0,0),(0,(0,0))))))))))),([],(0,((0,(0,[])),(([],([],[])),(0,(0,((0,(0,(0,false))),((0,(0,(0,false))),((0,0),(0,(0,0)))))))))))]))),0):=by kernel_rfl
theorem lvtop_begins11_3 (n:Nat):query_Do (n+39) ((20,((10,(20,60)),((4,(5,6)),(3,9)))),(0,((-1),[([([97],[])],(2,((0,(0,[(2,(1,(0,false)))])),(([(0,(0,((0,(0,(0,false))),((0,(0,(0,false))),((0,0),(0,(0,0))))))),(0,(0,((0,(0,(0,false))),((0,(0,(0,false))),((0,0),(0,(0,0))))))),(0,(0,((0,(0,(0,false))),((0,(0,(0,false))),((0,0),(0,(0,0))))))),(0,(0,((0,(0,(0,false))),((0,(0,(0,false))),((0,0),(0,(0,0)))))))],([(0,(0,((0,(0,(0,false))),((0,(0,(0,false))),((0,0),(0,(0,0))))))),(0,(0,((0,(0,(0,false))),((0,(0,(0,false))),((0,0),(0,(0,0))))))),(0,(0,((0,(0,(0,false))),((0,(0,(0,false))),((0,0),(0,(0,0))))))),(0,(0,((0,(0,(0,false))),((0,(0,(0,false))),((0,0),(0,(0,0))))))),(0,(0,((0,(0,(0,false))),((0,(0,(0,false))),((0,0),(0,(0,0)))))))],[(0,(0,((0,(0,(0,false))),((0,(0,(0,false))),((0,0),(0,(0,0))))))),(0,(0,((0,(0,(0,false))),((0,(0,(0,false))),((0,0),(0,(0,0))))))),(0,(0,((0,(0,(0,false))),((0,(0,(0,false))),((0,0),(0,(0,0))))))),(0,(0,((0,(0,(0,false))),((0,(0,(0,false))),((0,0),(0,(0,0))))))),(0,(0,((0,(0,(0,false))),((0,(0,(0,false))),((0,0),(0,(0,0))))))),(0,(0,((0,(0,(0,false))),((0,(0,(0,false))),((0,0),(0,(0,0)))))))])),(0,(1,((2,(1,(0,false))),((2,(1,(0,false))),((0,0),(0,(0,0))))))))))),([],(0,((0,(0,[])),(([],([],[])),(0,(0,((0,(0,(0,false))),((0,(0,(0,false))),((0,0),(0,(0,0))))))))))),([],(0,((0,(0,[])),(([],([],[])),(0,(0,((0,(0,(0,false))),((0,(0,(0,false))),((0,0),(0,(0,0)))))))))))]))) ([([97],[])],(1,(0,10)))=some ((1,((1,((2,(1,(0,false))),((2,(1,(0,false))),((0,0),(0,(0,0)))))),(((0,0),(0,0)),12))),0):=by kernel_rfl
theorem lvtop_begins11_4 (n:Nat):sweep_Do (n+39) ((20,((10,(20,60)),((4,(5,6)),(3,9)))),(0,((-1),[([([97],[])],(2,((0,(0,[(2,(1,(0,false)))])),(([(0,(0,((0,(0,(0,false))),((0,(0,(0,false))),((0,0),(0,(0,0))))))),(0,(0,((0,(0,(0,false))),((0,(0,(0,false))),((0,0),(0,(0,0))))))),(0,(0,((0,(0,(0,false))),((0,(0,(0,false))),((0,0),(0,(0,0))))))),(0,(0,((0,(0,(0,false))),((0,(0,(0,false))),((0,0),(0,(0,0)))))))],([(0,(0,((0,(0,(0,false))),((0,(0,(0,false))),((0,0),(0,(0,0))))))),(0,(0,((0,(0,(0,false))),((0,(0,(0,false))),((0,0),(0,(0,0))))))),(0,(0,((0,(0,(0,false))),((0,(0,(0,false))),((0,0),(0,(0,0))))))),(0,(0,((0,(0,(0,false))),((0,(0,(0,false))),((0,0),(0,(0,0))))))),(0,(0,((0,(0,(0,false))),((0,(0,(0,false))),((0,0),(0,(0,0)))))))],[(0,(0,((0,(0,(0,false))),((0,(0,(0,false))),((0,0),(0,(0,0))))))),(0,(0,((0,(0,(0,false))),((0,(0,(0,false))),((0,0),(0,(0,0))))))),(0,(0,((0,(0,(0,false))),((0,(0,(0,false))),((0,0),(0,(0,0))))))),(0,(0,((0,(0,(0,false))),((0,(0,(0,false))),((0,0),(0,(0,0))))))),(0,(0,((0,(0,(0,false))),((0,(0,(0,false))),((0,0),(0,(0,0))))))),(0,(0,((0,(0,(0,false))),((0,(0,(0,false))),((0,0),(0,(0,0)))))))])),(0,(1,((2,(1,(0,false))),((2,(1,(0,false))),((0,0),(0,(0,0))))))))))),([],(0,((0,(0,[])),(([],([],[])),(0,(0,((0,(0,(0,false))),((0,(0,(0,false))),((0,0),(0,(0,0))))))))))),([],(0,((0,(0,[])),(([],([],[])),(0,(0,((0,(0,(0,false))),((0,(0,(0,false))),((0,0),(0,(0,0)))))))))))])))=some (((20,((10,(20,60)),((4,(5,6)),(3,9)))),(0,(0,[([([97],[])],(2,((0,(0,[(2,(1,(0,false)))])),(([(0,(0,((0,(0,(0,false))),((0,(0,(0,false))),((0,0),(0,(0,0))))))),(0,(0,((0,(0,(0,false))),((0,(0,(0,false))),((0,0),(0,(0,0))))))),(0,(0,((0,(0,(0,false))),((0,(0,(0,false))),((0,0),(0,(0,0))))))),(0,(0,((0,(0,(0,false))),((0,(0,(0,false))),((0,0),(0,(0,0)))))))],([(0,(0,((0,(0,(0,false))),((0,(0,(0,false))),((0,0),(0,(0,0))))))),(0,(0,((0,(0,(0,false))),((0,(0,(0,false))),((0,0),(0,(0,0))))))),(0,(0,((0,(0,(0,false))),((0,(0,(0,false))),((0,0),(0,(0,0))))))),(0,(0,((0,(0,(0,false))),((0,(0,(0,false))),((0,0),(0,(0,0))))))),(0,(0,((0,(0,(0,false))),((0,(0,(0,false))),((0,0),(0,(0,0)))))))],[(0,(0,((0,(0,(0,false))),((0,(0,(0,false))),((0,0),(0,(0,0))))))),(0,(0,((0,(0,(0,false))),((0,(0,(0,false))),((0,0),(0,(0,0))))))),(0,(0,((0,(0,(0,false))),((0,(0,(0,false))),((0,0),(0,(0,0))))))),(0,(0,((0,(0,(0,false))),((0,(0,(0,false))),((0,0),(0,(0,0))))))),(0,(0,((0,(0,(0,false))),((0,(0,(0,false))),((0,0),(0,(0,0))))))),(0,(0,((0,(0,(0,false))),((0,(0,(0,false))),((0,0),(0,(0,0)))))))])),(0,(1,((2,(1,(0,false))),((2,(1,(0,false))),((0,0),(0,(0,0))))))))))),([],(0,((0,(0,[])),(([],([],[])),(0,(0,((0,(0,(0,false))),((0,(0,(0,false))),((0,0),(0,(0,0))))))))))),([],(0,((0,(0,[])),(([],([],[])),(0,(0,((0,(0,(0,false))),((0,(0,(0,false))),((0,0),(0,(0,0)))))))))))]))),(0,0)):=by kernel_rfl
theorem top_begins11_true (n:Nat):top_begins11 (n+40)=some true:=by
  rw[lvtop_begins11_eq]
  refine ob (lvtop_begins11_0 n) ?_
  refine ob (lvtop_begins11_1 n) ?_
  refine tf (by kernel_rfl) ?_
  refine ob (lvtop_begins11_2 n) ?_
  refine ob (lvtop_begins11_3 n) ?_
  refine ob (lvtop_begins11_4 n) ?_
  refine tt (by kernel_rfl) ?_
  refine tt (by kernel_rfl) ?_
  refine tt (by kernel_rfl) ?_
  refine tt (by kernel_rfl) ?_
  refine tt (by kernel_rfl) ?_
  refine tt (by kernel_rfl) ?_
  kernel_rfl
end Go.Proofs.YtjeabebacegikaaGreatDoor

namespace Go.Proofs.YtjeabebacegikaaGreatDoor
open Go.Flat Go.Plim
set_option linter.unusedVariables false
set_option linter.unusedSimpArgs false
theorem cell_of_l2 (n:Nat) (l0:List Ev) (s2:Cel) (l:List Ev) (hL:l.length≤1000000000000) (hw:∀e∈l,EvW e):∀(rest pre:List Ev) (f:Nat) (i len:Int),l=pre++rest→i=pre.length→len=l.length→rest.length<f →
    cell_Of_l2 (n+1) f (l0,s2,l,len,i,())=some (if ∀e∈rest,EvOk e then .inl (l0,s2,()) else .inr (z0,2)):=by
  intro rest
  induction rest with
  | nil =>
    intro pre f i len hl hi hn hf
    obtain ⟨f,rfl⟩:∃g,f=g+1:=⟨f-1,by simp at hf;omega⟩
    rw[cell_Of_l2_eq]
    simp[tif_dec,if_neg (idxe hl hi hn)]
  | cons x rest ih =>
    intro pre f i len hl hi hn hf
    obtain ⟨f,rfl⟩:∃g,f=g+1:=⟨f-1,by simp at hf;omega⟩
    rw[cell_Of_l2_eq]
    have hx:EvW x:=hw x (by rw[hl];simp)
    simp only[tif_dec,tif_not,if_pos (idx hl hi hn),at_mid hl hi,obind_some,event_check n hx,idxw hl hi hL,z02]
    by_cases ho:EvOk x
    · rw[if_pos ho,ih (pre++[x]) f (i+1) len (idxl hl) (idxs hi) hn (by simp at hf;omega)]
      have e:(∀e∈x::rest,EvOk e)↔(∀e∈rest,EvOk e):=by simp[ho]
      by_cases hr:∀e∈rest,EvOk e
      · rw[if_pos hr,if_pos (e.2 hr)]
      · rw[if_neg hr,if_neg (fun k=>hr (e.1 k))]
    · have h2:¬(∀e∈x::rest,EvOk e):=fun k=>ho (k x (by simp))
      rw[if_neg ho,if_neg ho,if_neg h2]
      rfl
theorem cell_of_l10 (n:Nat) (s2:Cel) (l:List Ev) (hL:l.length≤1000000000000) (hok:∀e∈l,EvOk e):∀(rest pre:List Ev) (f:Nat) (i len:Int),l=pre++rest→i=pre.length→len=l.length→rest.length<f→Foll pre →
    cell_Of_l10 (n+6) f (s2,cellOf pre,l,len,i,())=some (if l.Pairwise (fun a b=>a.1<b.1) then .inl (s2,cellOf l,()) else .inr (z0,9)):=by
  intro rest
  induction rest with
  | nil =>
    intro pre f i len hl hi hn hf hp
    obtain ⟨f,rfl⟩:∃g,f=g+1:=⟨f-1,by simp at hf;omega⟩
    rw[cell_Of_l10_eq]
    simp only[tif_dec,if_neg (idxe hl hi hn)]
    rw[List.append_nil] at hl
    subst hl
    rw[if_pos hp.inc]
  | cons x rest ih =>
    intro pre f i len hl hi hn hf hp
    obtain ⟨f,rfl⟩:∃g,f=g+1:=⟨f-1,by simp at hf;omega⟩
    rw[cell_Of_l10_eq]
    have hx:EvOk x:=hok x (by rw[hl];simp)
    simp only[tif_dec,tif_not,if_pos (idx hl hi hn),at_mid hl hi,obind_some,cell_one_val,cell_merge n (.of (cellOf_ok hp)) (evCell_w (.of hx)),idxw hl hi hL]
    by_cases hf':Foll (pre++[x])
    · rw[(mrgE_snoc hp hx).1 hf']
      simp only[if_pos trivial]
      exact ih (pre++[x]) f (i+1) len (idxl hl) (idxs hi) hn (by simp at hf;omega) hf'
    · rw[(mrgE_snoc hp hx).2 hf']
      simp only
      have:¬(l.Pairwise fun a b=>a.1<b.1):=by
        intro k
        apply hf'
        rw[idxl hl] at k
        exact ⟨fun e he=>hok e (by rw[idxl hl];exact List.mem_append_left _ he),(List.pairwise_append.1 k).1⟩
      rw[if_neg (by decide),if_neg this]
      rfl
theorem cell_of (n:Nat) (l:List Ev) (hL:l.length≤1000000000000) (hw:∀e∈l,EvW e):cell_Of (n+7) l=some (ofE l):=by
  have e1:=cell_of_l2 (n+5) l z0 l hL hw l [] loopFuel 0 l.length rfl rfl rfl (by unfold loopFuel;omega)
  rw[cell_Of_eq]
  have e1':cell_Of_l2 (n+6) loopFuel (l,((0:Int),(((0:Int),((0:Int),((0:Int),false))),(((0:Int),((0:Int),((0:Int),false))),(((0:Int),(0:Int)),((0:Int),((0:Int),(0:Int))))))),l,(l.length:Int),(0:Int),())=_:=e1
  rw[e1']
  unfold ofE
  by_cases h:∀e∈l,EvOk e
  · rw[if_pos h,if_pos h]
    simp only[obind_some,selim_inl]
    have e2:=cell_of_l10 n z0 l hL h l [] loopFuel 0 l.length rfl rfl rfl (by unfold loopFuel;omega) Foll.nil
    have e2':cell_Of_l10 (n+6) loopFuel (z0,((0:Int),(((0:Int),((0:Int),((0:Int),false))),(((0:Int),((0:Int),((0:Int),false))),(((0:Int),(0:Int)),((0:Int),((0:Int),(0:Int))))))),l,(l.length:Int),(0:Int),())=_:=e2
    rw[e2']
    by_cases h':l.Pairwise fun a b=>a.1<b.1
    · rw[if_pos h',if_pos h'];simp
    · rw[if_neg h',if_neg h'];simp
  · rw[if_neg h,if_neg h];simp
end Go.Proofs.YtjeabebacegikaaGreatDoor

namespace Go.Proofs.YtjeabebacegikaaGreatDoor
open Go.Flat Go.Plim
set_option linter.unusedVariables false
set_option linter.unusedSimpArgs false
abbrev Act:Type:=Int×((List Lab×Ev)×Int)
theorem small_l4 (n:Nat) (acts:List Act) (hL:acts.length≤9223372036854775807) (hw:∀x∈acts,x.2.1.1.length≤9223372036854775807):∀(rest pre:List Act) (f:Nat) (ix len:Int),acts=pre++rest→ix=pre.length→len=acts.length→rest.length<f →
    top_smallActs_l4 (n+1) f (acts,len,ix,())=some (.inl ())∨top_smallActs_l4 (n+1) f (acts,len,ix,())=some (.inr false):=by
  intro rest
  induction rest with
  | nil =>
    intro pre f ix len ha hi hl hf
    obtain ⟨f,rfl⟩:=fuel_succ hf
    subst hi;subst hl
    rw[List.append_nil] at ha
    subst ha
    rw[top_smallActs_l4_eq,decide_eq_false (by omega),tif_false]
    exact .inl rfl
  | cons x r ih =>
    intro pre f ix len ha hi hl hf
    obtain ⟨f,rfl⟩:=fuel_succ hf
    have hlen:acts.length=pre.length+(r.length+1):=by rw[ha];simp
    subst hi;subst hl
    have hat:at? acts (pre.length:Int)=some x:=by
      rw[ha];exact at_mid (pre:=pre) (rest:=r) rfl rfl
    rw[top_smallActs_l4_eq,decide_eq_true (by omega),tif_true,hat,obind_some]
    rcases l05_small n x.2.1.1 (hw x (by rw[ha];simp)) with h | h
    · rw[h];exact .inr rfl
    · rw[h,obind_some,show (decide ((1:Int)=0))=false from rfl,tif_false,w64 (by omega) (by omega)]
      exact ih (pre++[x]) f ((pre.length:Int)+1) (acts.length:Int) (by rw[ha];simp) (by simp) rfl (by simp at hf;omega)
theorem small_acts (n:Nat) (acts:List Act) (hL:acts.length≤9223372036854775807) (hw:∀x∈acts,x.2.1.1.length≤9223372036854775807):top_smallActs (n+2) acts=some false∨(top_smallActs (n+2) acts=some true∧acts.length≤40):=by
  rw[top_smallActs_eq,tif_dec]
  by_cases h:(40:Int)<((acts.length:Nat):Int)
  · rw[if_pos h];exact .inl rfl
  rw[if_neg h]
  rcases small_l4 n acts hL hw acts [] loopFuel 0 _ rfl rfl rfl (by unfold loopFuel;omega) with e | e
  · rw[e];exact .inr ⟨rfl,by omega⟩
  · rw[e];exact .inl rfl
theorem fits11 (n:Nat) (c:Conf):top_fits11 (n+8) c=some false∨(top_fits11 (n+8) c=some true∧(newSt c).2=0):=by
  rw[top_fits11_eq,stt_new_own n,obind_some,tif_dec]
  by_cases h:(newSt c).2=0
  case neg=>rw[if_neg h];exact .inl rfl
  rw[if_pos h]
  simp only[tif_dec]
  by_cases h1:((((newSt c).1.2.2.2.length:Nat):Int))≤8
  case neg=>rw[if_neg h1];exact .inl rfl
  rw[if_pos h1]
  by_cases h2:c.1≤60
  case neg=>rw[if_neg h2];exact .inl rfl
  rw[if_pos h2]
  by_cases h3:c.2.2.1.1≤40
  case neg=>rw[if_neg h3];exact .inl rfl
  rw[if_pos h3]
  by_cases h4:c.2.2.1.2.1≤40
  case neg=>rw[if_neg h4];exact .inl rfl
  rw[if_pos h4]
  by_cases h5:c.2.2.1.2.2≤40
  · rw[decide_eq_true h5];exact .inr ⟨rfl,h⟩
  · rw[decide_eq_false h5];exact .inl rfl
theorem top_act (n:Nat) {N:Nat} {s:Sta} (h:EvInv N s) (hb:N<1000000) (x:Act) (hx:EvW x.2.1.2):∃t v,top_Act_Do (n+25) x s=some (t,v)∧EvInv (N+1) t:=by
  rw[top_Act_Do_eq,tif_dec]
  by_cases h0:x.1=0
  · rw[if_pos h0,write_one n h.w x.2.1.1 hx,obind_some,tif_dec]
    have hw:=h.write hb x.2.1.1 x.2.1.2
    by_cases k:(writeV s x.2.1.1 x.2.1.2).2=0
    · rw[if_pos k] at hw ⊢
      exact ⟨_,_,rfl,hw⟩
    · rw[if_neg k] at hw ⊢
      exact ⟨_,_,rfl,hw⟩
  rw[if_neg h0,tif_dec]
  by_cases h1:x.1=1
  · rw[if_pos h1,csc_tick (n+9) h.w,obind_some]
    exact ⟨_,_,rfl,(h.tick x.2.2).mono (Nat.le_succ N)⟩
  rw[if_neg h1,tif_dec]
  by_cases h2:x.1=2
  · rw[if_pos h2,sweep_do (n+8) h.w,obind_some]
    have e:doV s=(sweptS s,(((dueV s).length:Int),0)):=by unfold doV;rw[if_pos h.ok]
    rw[e]
    exact ⟨_,_,rfl,h.sweep.mono (Nat.le_succ N)⟩
  rw[if_neg h2,tif_dec]
  by_cases h3:x.1=3
  · rw[if_pos h3,sweep_clean (n+9) h.w,obind_some]
    have e:cleanV s=(cleanS s,0):=by unfold cleanV;rw[if_pos h.ok]
    rw[e]
    exact ⟨_,_,rfl,h.clean.mono (Nat.le_succ N)⟩
  rw[if_neg h3]
  exact ⟨_,_,rfl,h.mono (Nat.le_succ N)⟩
theorem events_l9 (n:Nat) (q:List Lab×(Int×(Int×Int))) (acts:List Act) (hL:acts.length≤40) (he:∀x∈acts,EvW x.2.1.2):∀(rest pre:List Act) (f:Nat) (s:Sta) (ix len:Int),acts=pre++rest→ix=pre.length→len=acts.length→rest.length<f→EvInv pre.length s →
    ∃t,top_TopEvents_l9 (n+25) f (q,s,acts,len,ix,())=some (.inl (q,t,()))∧EvInv 40 t:=by
  intro rest
  induction rest with
  | nil =>
    intro pre f s ix len ha hi hl hf hs
    obtain ⟨f,rfl⟩:=fuel_succ hf
    subst hi;subst hl
    rw[List.append_nil] at ha
    subst ha
    rw[top_TopEvents_l9_eq,decide_eq_false (by omega),tif_false]
    exact ⟨s,rfl,hs.mono hL⟩
  | cons x r ih =>
    intro pre f s ix len ha hi hl hf hs
    obtain ⟨f,rfl⟩:=fuel_succ hf
    have hlen:acts.length=pre.length+(r.length+1):=by rw[ha];simp
    subst hi;subst hl
    obtain ⟨t,v,e1,e2⟩:=top_act n hs (by omega) x (he x (by rw[ha];simp))
    have hat:at? acts (pre.length:Int)=some x:=by
      rw[ha];exact at_mid (pre:=pre) (rest:=r) rfl rfl
    rw[top_TopEvents_l9_eq,decide_eq_true (by omega),tif_true,hat,obind_some,e1,obind_some,w64 (by omega) (by omega)]
    obtain ⟨t2,f1,f2⟩:=ih (pre++[x]) f t ((pre.length:Int)+1) (acts.length:Int) (by rw[ha];simp) (by simp) rfl (by simp at hf;omega) (by simpa using e2)
    exact ⟨t2,f1,f2⟩
theorem acts_wf {acts:List Act} (ha:Wf (.slice tyTopA) acts):acts.length≤9223372036854775807∧(∀x∈acts,x.2.1.1.length≤9223372036854775807)∧∀x∈acts,EvW x.2.1.2 :=
  ⟨Nat.le_trans ha.1 (by decide),fun x hx=>Nat.le_trans (ha.2 x hx).2.1.1.1 (by decide),fun x hx=>ev_wf (ha.2 x hx).2.1.2⟩
theorem rawQ_err {r:Rw} {a b:Int} (h:(rawQ r a b).2≠0):(rawQ r a b).1=[]:=by
  unfold rawQ at h ⊢
  by_cases h1:b≤a
  · rw[if_pos h1]
  rw[if_neg h1] at h ⊢
  by_cases h2:0<r.1∧a≤r.2.1
  · rw[if_pos h2]
  · rw[if_neg h2] at h;exact absurd rfl h
theorem rawV_err {s:Sta} {l:List Lab} {a b:Int} (h:(rawV s l a b).2≠0):(rawV s l a b).1=[]:=by
  unfold rawV at h ⊢
  by_cases h1:StaOk s
  case neg=>rw[if_neg h1]
  rw[if_pos h1] at h ⊢
  by_cases h2:LabOk l
  case neg=>rw[if_neg h2]
  rw[if_pos h2] at h ⊢
  by_cases h3:RngP a b
  case neg=>rw[if_neg h3]
  rw[if_pos h3] at h ⊢
  by_cases h4:deadV s.1 a s.2.1=true
  · rw[if_pos h4]
  rw[if_neg h4] at h ⊢
  cases hf:findV s l with
  | none=>rfl
  | some i=>rw[hf] at h;exact rawQ_err h
theorem topEvents_true (n:Nat) (c:Conf) (acts:List Act) (q:List Lab×(Int×(Int×Int))) (hc:Wf tyConfig c) (ha:Wf (.slice tyTopA) acts) (hq:Wf tyAsk q):top_TopEvents (n+41) c acts q=some true:=by
  obtain ⟨a1,a2,a3⟩:=acts_wf ha
  rw[top_TopEvents_eq,top_begins11_true n,obind_some,tif_not,tif_true]
  rcases fits11 (n+32) c with h | ⟨h,h0⟩
  · rw[h];rfl
  rw[h,obind_some,tif_not,tif_true]
  rcases small_acts (n+38) acts a1 a2 with h1 | ⟨h1,h40⟩
  · rw[h1];rfl
  rw[h1,obind_some,tif_not,tif_true]
  rcases l05_small (n+39) q.1 (ask_labs hq) with h2 | h2
  · rw[h2];rfl
  rw[h2,obind_some,show (decide ((1:Int)=0))=false from rfl,tif_false,stt_new_own (n+33),obind_some,tif_not,tif_dec,if_pos h0]
  obtain ⟨s,e1,hs⟩:=events_l9 (n+15) q acts h40 a3 acts [] loopFuel (newSt c).1 0 _ rfl rfl rfl (by unfold loopFuel;omega) (.of (inv_new h0))
  rw[e1,obind_some,selim_inl]
  obtain ⟨l,t,a,b⟩:=q
  rw[query_raw (n+24) hs.w,obind_some,query_do (n+16) hs.w,obind_some,tif_not,tif_dec]
  simp only
  by_cases g1:(rawV s l a b).2=0
  case neg =>
    rw[if_neg g1,rawV_err g1]
    rfl
  rw[if_pos g1,tif_not,tif_dec]
  by_cases g2:(doQ s l t a b).2=0
  case neg =>
    rw[if_neg g2,tif_dec,decide_eq_true g1]
    split<;>rfl
  rw[if_pos g2]
  obtain ⟨k1,k2⟩:=ev_answer hs (R:=(rawV s l a b).1) g2 (Prod.ext rfl g1)
  rw[cell_of (n+33) _ (Nat.le_trans (rawV_len s l a b) (by decide)) (fun e he=>EvW.of (k2 e he)),obind_some,k1]
  simp only[decide_true,beq_self_eq_true,Bool.and_self,tif_true]
end Go.Proofs.YtjeabebacegikaaGreatDoor
