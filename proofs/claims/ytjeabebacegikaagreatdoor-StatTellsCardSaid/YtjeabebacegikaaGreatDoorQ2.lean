/-
  Plain proofs about the functions of this seat, part 2 of 3.
-/
import Derived.Test.YtjeabebacegikaaGreatDoorQ1
import Derived.Test.YtjeabebacegikaaGreatDoorTr
import Derived.Test.YtjeabebacegikaaGreatDoorFlatM3
namespace Go.Proofs.YtjeabebacegikaaGreatDoor
open Go.Flat Go.Plim
set_option linter.unusedVariables false
set_option linter.unusedSimpArgs false
theorem clone_slot (n:Nat) (l:List Slo) (h:l.length≤1000000):sl_Clone_Slot (n+1) l=some l:=by
  rw[sl_Clone_Slot_eq]
  simp only[tfd,if_pos (show (0+l.length)*120≤140737488355328 by omega),List.nil_append]
  by_cases h0:l.length=0
  · obtain rfl:=List.length_eq_zero_iff.1 h0
    simp
  · rw[if_neg h0]
section
variable {del:TSlot×Unit→Option Bool} {p:Slo→Bool} (hd:∀x,del (x,())=some (p x))
include hd
theorem index_l (n:Nat) (l:List Slo) (hL:l.length≤1000000):∀(rest pre:List Slo) (f:Nat) (i len:Int),l=pre++rest→i=pre.length→len=l.length→rest.length<f →
    (sl_IndexFunc_Slot_l2 n f (l,del,len,i,())=some (.inl ())∧∀x∈rest,p x=false) ∨
    (∃A x B,rest=A++x::B∧(∀y∈A,p y=false)∧p x=true∧sl_IndexFunc_Slot_l2 n f (l,del,len,i,())=some (.inr (i+A.length))):=by
  intro rest
  induction rest with
  | nil =>
    intro pre f i len hl hi hn hf
    obtain ⟨f,rfl⟩:∃g,f=g+1:=⟨f-1,by simp at hf;omega⟩
    rw[sl_IndexFunc_Slot_l2_eq]
    exact .inl ⟨by simp only[tfd,if_neg (idxe hl hi hn)],by simp⟩
  | cons x rest ih =>
    intro pre f i len hl hi hn hf
    obtain ⟨f,rfl⟩:∃g,f=g+1:=⟨f-1,by simp at hf;omega⟩
    rw[sl_IndexFunc_Slot_l2_eq]
    simp only[tfd,if_pos (idx hl hi hn),at_mid hl hi,obs,hd,idxw hl hi (by omega)]
    cases hp:p x with
    | true=>exact .inr ⟨[],x,rest,rfl,by simp,hp,by simp⟩
    | false =>
      rw[tff]
      rcases ih (pre++[x]) f (i+1) len (idxl hl) (idxs hi) hn (by simp at hf;omega) with ⟨h1,h2⟩ | ⟨A,y,B,h1,h2,h3,h4⟩
      · exact .inl ⟨h1,by intro z hz;rcases List.mem_cons.1 hz with rfl | hz;exact hp;exact h2 z hz⟩
      · refine .inr ⟨x::A,y,B,by rw[h1];rfl,?_,h3,by rw[h4,List.length_cons,show i+1+(A.length:Int)=i+((A.length+1:Nat):Int) by omega]⟩
        intro z hz
        rcases List.mem_cons.1 hz with rfl | hz
        · exact hp
        · exact h2 z hz
theorem delete_l (n:Nat) (l0:List Slo) (hL:l0.length≤1000000):∀(rest F G:List Slo) (f:Nat) (i j:Int),(F++(G++rest)).length=l0.length→G≠[]→i=F.length→j=F.length+G.length→rest.length<f →
    ∃G',sl_DeleteFunc_Slot_l5 n f (F++(G++rest),del,i,j,())=some (.inl (F++rest.filter (fun x => !p x)++G',(F++rest.filter (fun x => !p x)).length,()))∧(F++rest.filter (fun x => !p x)++G').length=l0.length:=by
  intro rest
  induction rest with
  | nil =>
    intro F G f i j hl hg hi hj hf
    obtain ⟨f,rfl⟩:∃g,f=g+1:=⟨f-1,by simp at hf;omega⟩
    rw[sl_DeleteFunc_Slot_l5_eq]
    have:¬(j<((F++(G++[])).length:Int)):=by simp;omega
    simp only[tfd,if_neg this]
    exact ⟨G,by simp[hi],by simpa using hl⟩
  | cons x rest ih =>
    intro F G f i j hl hg hi hj hf
    obtain ⟨f,rfl⟩:∃g,f=g+1:=⟨f-1,by simp at hf;omega⟩
    rw[sl_DeleteFunc_Slot_l5_eq]
    simp only[List.length_append,List.length_cons] at hl
    have hlt:j<((F++(G++x::rest)).length:Int):=by simp;omega
    have hat:at? (F++(G++x::rest)) j=some x:=at_mid (pre:=F++G) (rest:=rest) (by simp) (by simp;omega)
    have hget:(F++(G++x::rest))[j.toNat]? = some x:=by
      rw[show j.toNat=F.length+G.length by omega,List.getElem?_append_right (by omega),List.getElem?_append_right (by omega)]
      simp
    simp only[tfd,if_pos hlt,hat,hget,obs,hd]
    have wj:IntKind.wrap .i64 (j+1)=j+1:=by rw[w64 (by omega) (by omega)]
    have wi:IntKind.wrap .i64 (i+1)=i+1:=by rw[w64 (by omega) (by omega)]
    rw[wj,wi]
    match G,hg with
    | g::G,_ =>
    cases hp:p x with
    | false =>
      have hat':at? (F++(g::G++x::rest)) i=some g:=at_mid (pre:=F) (rest:=G++x::rest) (by simp) hi
      have hget':(F++(g::G++x::rest))[i.toNat]? = some g:=by
        rw[show i.toNat=F.length by omega];simp
      have hset:(F++(g::G++x::rest)).set i.toNat x=(F++[x])++((G++[x])++rest):=by
        rw[show i.toNat=F.length by omega,List.set_append_right _ _ (by omega)]
        simp
      simp only[Bool.not_false,tft,hat',hget',obs,hset]
      obtain ⟨G',h1,h2⟩:=ih (F++[x]) (G++[x]) f (i+1) (j+1) (by simp at hl ⊢;omega) (by simp) (by simp;omega) (by simp at hj ⊢;omega) (by simp at hf;omega)
      refine ⟨G',?_,?_⟩
      · rw[h1];simp[List.filter_cons,hp]
      · rw[←h2];simp[List.filter_cons,hp]
    | true =>
      simp only[Bool.not_true,tff]
      obtain ⟨G',h1,h2⟩:=ih F (g::G++[x]) f i (j+1) (by simp at hl ⊢;omega) (by simp) hi (by simp at hj ⊢;omega) (by simp at hf;omega)
      simp only[List.append_assoc,List.singleton_append] at h1
      refine ⟨G',?_,?_⟩
      · rw[h1];simp[List.filter_cons,hp]
      · rw[←h2];simp[List.filter_cons,hp]
theorem delete_slot (n:Nat) (l:List Slo) (hL:l.length≤1000000):sl_DeleteFunc_Slot (n+2) l del=some (l.filter fun x => !p x):=by
  rw[sl_DeleteFunc_Slot_eq,sl_IndexFunc_Slot_eq]
  rcases index_l hd n l hL l [] loopFuel 0 l.length rfl rfl rfl (by unfold loopFuel;omega) with ⟨h1,h2⟩ | ⟨A,x,B,h1,h2,h3,h4⟩
  · rw[h1]
    simp only[obs,selim_inl,tfd,if_pos trivial]
    exact congrArg some (List.filter_eq_self.2 fun y hy=>by simp[h2 y hy]).symm
  · rw[h4]
    have hl:l.length=A.length+(B.length+1):=by rw[h1];simp
    simp only[obs,selim_inr,tfd,Int.zero_add]
    rw[if_neg (by omega),w64 (x:=(A.length:Int)+1) (by omega) (by omega)]
    obtain ⟨G',g1,g2⟩:=delete_l hd (n+1) l hL B A [x] loopFuel (A.length:Int) (A.length+1) (by rw[h1];simp) (by simp) rfl (by simp) (by unfold loopFuel;omega)
    rw[show A++([x]++B)=l by rw[h1];simp] at g1
    rw[g1]
    have hF:A++B.filter (fun x => !p x)=l.filter fun x => !p x:=by
      rw[h1,List.filter_append,List.filter_cons]
      have:A.filter (fun x => !p x)=A:=List.filter_eq_self.2 fun y hy=>by simp[h2 y hy]
      simp[h3,this]
    rw[hF] at g2 ⊢
    generalize (l.filter fun x => !p x)=F at *
    simp only[obs,selim_inl,tif_and,tfd,Int.toNat_natCast]
    have hle:F.length≤(F++G').length:=by simp
    have k1:putRow (F++G') F.length (List.replicate ((F++G').length-F.length) s0)=F++List.replicate ((F++G').length-F.length) s0:=by
      unfold putRow
      rw[List.drop_of_length_le (by simp)]
      simp
    have k2:=k1
    simp only[s0,z0,e0] at k2
    rw[k2,if_pos (by omega),if_pos hle,if_pos (by omega),if_pos (by omega),if_pos (by simp;omega)]
    simp
end
theorem compare64 (n:Nat) (x y:Int):cmp_Compare_int64 (n+2) x y=some (if x<y then -1 else if y<x then 1 else 0):=by
  rw[cmp_Compare_int64_eq,cmp_isNaN_int64_eq,cmp_isNaN_int64_eq]
  simp only[decide_true,Bool.not_true,obs,tff,tfd]
  by_cases h1:x<y
  · rw[if_pos h1,if_pos h1]
  · rw[if_neg h1,if_neg h1]
    by_cases h2:y<x
    · rw[if_pos h2,if_pos h2]
    · rw[if_neg h2,if_neg h2]
theorem cmp_slots (n:Nat):Cmp (fun y3=>tier_All_1 (n+3) y3.1 y3.2.1) (fun s=>s.1):=by
  intro x y
  refine ⟨if x.1<y.1 then -1 else if y.1<x.1 then 1 else 0,?_,?_⟩
  · show tier_All_1 (n+3) x y=_
    rw[tier_All_1_eq,compare64];rfl
  · by_cases h1:x.1<y.1
    · simp[h1]
    · by_cases h2:y.1<x.1
      · simp[h1,h2]
      · simp[h1,h2]
theorem pairwise_of_srt {l:List Slo} (h:Srt (fun s=>s.1) l 0 l.length):l.Pairwise fun a b=>a.1≤b.1:=by
  rw[List.pairwise_iff_getElem]
  intro i j hi hj hij
  exact h i j _ _ (by omega) hij hj (List.getElem?_eq_getElem hi) (List.getElem?_eq_getElem hj)
theorem tier_all (n:Nat) {l:List Slo} {w:Int} (h:TierOk l w):tier_All (n+17) l=some (tall l):=by
  have hl:=h.l1
  rw[tier_All_eq,clone_slot _ l (by omega)]
  simp only[obs]
  rw[delete_slot (del:=fun y1=>tier_none (n+16) y1.1) (p:=fun s=>decide (s=s0)) (fun x=>tier_none_val (n+15) x) (n+14) l (by omega)]
  simp only[obs]
  have e:(l.filter fun x => !decide (x=s0))=some13 l:=by unfold some13;congr 1;funext x;simp
  rw[e]
  have hle:(some13 l).length≤l.length:=List.length_filter_le _ _
  obtain ⟨d',r1,r2,r3⟩:=sortStable_ok (cmp_slots (n+13)) n 12 (some13 l) (by omega) (by omega)
  rw[r1]
  rw[←r2.length_eq] at r3
  rw[tall_eq h r2 (pairwise_of_srt r3)]
  rfl
theorem r13_all_l7 (n:Nat) (out:List Slo) (s:Slo) (s8:List Slo) (s9 s10:Int) (hL:out.length≤1000000) (hs:out.Pairwise fun a b=>a.1≤b.1):∀(k f:Nat),k≤out.length→k<f→(∀x∈out.drop k,s.1<x.1) →
    ∃k':Nat,r13_All_l7 n f (out,s,(k:Int),s8,s9,s10,())=some (.inl (out,s,(k':Int),s8,s9,s10,()))∧k'≤out.length∧(∀x∈out.take k',x.1≤s.1)∧(∀x∈out.drop k',s.1<x.1):=by
  intro k
  induction k with
  | zero =>
    intro f hk hf h
    obtain ⟨f,rfl⟩:∃g,f=g+1:=⟨f-1,by omega⟩
    rw[r13_All_l7_eq]
    simp only[tfd,if_neg (show ¬((0:Int)<((0:Nat):Int)) by omega)]
    exact ⟨0,rfl,by omega,by simp,h⟩
  | succ k ih =>
    intro f hk hf h
    obtain ⟨f,rfl⟩:∃g,f=g+1:=⟨f-1,by omega⟩
    rw[r13_All_l7_eq]
    have lk:k<out.length:=by omega
    rw[wn (x:=((k+1:Nat):Int)-1) (k:=k) (by omega) (by omega)]
    simp only[tfd,if_pos (show ((0:Int)<((k+1:Nat):Int)) by omega),at_some lk,Int.toNat_natCast,List.getElem?_eq_getElem lk,obs]
    by_cases hc:s.1<out[k].1
    · rw[if_pos hc]
      refine ih f (by omega) (by omega) (fun x hx => ?_)
      rw[List.drop_eq_getElem_cons lk] at hx
      rcases List.mem_cons.1 hx with rfl | hx
      · exact hc
      · exact h x hx
    · rw[if_neg hc]
      refine ⟨k+1,rfl,hk,fun x hx => ?_,h⟩
      obtain ⟨j,hj,rfl⟩:=List.mem_iff_getElem.1 hx
      have hj':j<k+1:=by simp at hj;omega
      rw[List.getElem_take]
      rcases Nat.lt_or_eq_of_le (Nat.le_of_lt_succ hj') with hjk | rfl
      · have:=List.pairwise_iff_getElem.1 hs j k (by omega) lk hjk
        omega
      · omega
theorem insert_sorted {out:List Slo} {s:Slo} {k:Nat} (hs:out.Pairwise fun a b=>a.1≤b.1) (h1:∀x∈out.take k,x.1≤s.1) (h2:∀x∈out.drop k,s.1<x.1) :
    (out.take k++s::out.drop k).Pairwise fun a b=>a.1≤b.1:=by
  rw[List.pairwise_append]
  refine ⟨hs.sublist (List.take_sublist _ _),List.pairwise_cons.2 ⟨fun x hx=>Int.le_of_lt (h2 x hx),hs.sublist (List.drop_sublist _ _)⟩,fun a ha b hb => ?_⟩
  rcases List.mem_cons.1 hb with rfl | hb
  · exact h1 a ha
  · have:=h1 a ha;have:=h2 b hb;omega
theorem r13_all_l3 (n:Nat) (l:List Slo) (hL:l.length≤1000000):∀(rest pre:List Slo) (f:Nat) (out:List Slo) (i len:Int),l=pre++rest→i=pre.length→len=l.length→rest.length<f→out.Pairwise (fun a b=>a.1≤b.1)→out.Perm (some13 pre) →
    ∃out',r13_All_l3 n f (out,l,len,i,())=some (.inl (out',()))∧out'.Pairwise (fun a b=>a.1≤b.1)∧out'.Perm (some13 l):=by
  intro rest
  induction rest with
  | nil =>
    intro pre f out i len hl hi hn hf hs hp
    obtain ⟨f,rfl⟩:∃g,f=g+1:=⟨f-1,by simp at hf;omega⟩
    rw[r13_All_l3_eq]
    rw[List.append_nil] at hl
    exact ⟨out,by simp only[tfd,if_neg (idxe (pre:=pre) (by rw[hl,List.append_nil]) hi hn)],hs,by rw[hl];exact hp⟩
  | cons x rest ih =>
    intro pre f out i len hl hi hn hf hs hp
    obtain ⟨f,rfl⟩:∃g,f=g+1:=⟨f-1,by simp at hf;omega⟩
    rw[r13_All_l3_eq]
    have hlen:out.length≤l.length:=by
      rw[hp.length_eq,hl]
      have:(some13 pre).length≤pre.length:=List.length_filter_le _ _
      simp;omega
    simp only[tfd,if_pos (idx hl hi hn),at_mid hl hi,obs,sloEq0]
    by_cases h0:x=s0
    · rw[if_pos h0,idxw hl hi (by omega)]
      exact ih (pre++[x]) f out (i+1) len (idxl hl) (idxs hi) hn (by simp at hf;omega) hs (by simpa [some13,List.filter_append,h0] using hp)
    · rw[if_neg h0]
      obtain ⟨k,r1,r2,r3,r4⟩:=r13_all_l7 n out x l len i (by omega) hs out.length loopFuel (Nat.le_refl _) (by unfold loopFuel;omega) (by simp)
      rw[r1]
      have t1:(List.take ((k:Int).toNat-0) (List.drop 0 out))=out.take k:=by simp
      have t2:(List.take (out.length-(k:Int).toNat) (List.drop (k:Int).toNat out))=out.drop k:=by
        rw[Int.toNat_natCast,List.take_of_length_le (by simp)]
      simp only[obs,selim_inl,tif_and,tfd]
      rw[t1,t2,List.nil_append]
      have l1:(out.take k).length=k:=by simp;omega
      rw[if_pos (by omega),if_pos (by omega),if_pos (by rw[l1];omega),if_pos (by rw[l1];omega),if_pos (by omega),if_pos (by simp;omega),if_pos (by simp;omega),idxw hl hi (by omega)]
      have e:out.take k++[x]++out.drop k=out.take k++x::out.drop k:=by simp
      rw[e]
      refine ih (pre++[x]) f _ (i+1) len (idxl hl) (idxs hi) hn (by simp at hf;omega) (insert_sorted hs r3 r4) ?_
      have e2:some13 (pre++[x])=some13 pre++[x]:=by simp[some13,List.filter_append,h0]
      rw[e2]
      refine (List.perm_middle).trans ?_
      rw[List.take_append_drop]
      exact ((List.Perm.cons x hp)).trans (List.perm_append_comm (l₁:=[x]))
theorem r13_all (n:Nat) {l:List Slo} {w:Int} (h:TierOk l w):r13_All (n+1) l=some (tall l):=by
  have hl:=h.l1
  rw[r13_All_eq]
  obtain ⟨out,r1,r2,r3⟩:=r13_all_l3 n l (by omega) l [] loopFuel [] 0 l.length rfl rfl rfl (by unfold loopFuel;omega) .nil (by simp[some13])
  rw[r1]
  simp only[obs,selim_inl]
  rw[tall_eq h r3 r2]
theorem ev_wf {e:Ev} (h:Wf tyEvent e):EvW e:=by
  obtain ⟨h1,h2,h3,_⟩:=h
  exact ⟨h1,h2,h3⟩
theorem cel_wf {c:Cel} (h:Wf tyCell c):CelW c:=by
  obtain ⟨h1,h2,h3,⟨h4,h5⟩,h6,h7,h8⟩:=h
  exact ⟨h1,ev_wf h2,ev_wf h3,⟨h4,h5⟩,h6,h7,h8⟩
theorem slo_wf {s:Slo} (h:Wf tySlot s):SloW s:=by
  obtain ⟨h1,h2⟩:=h
  exact ⟨h1,cel_wf h2⟩
theorem slos_wf {l:List Slo} (h:Wf (.slice tySlot) l):∀s∈l,SloW s:=fun s hs=>slo_wf (h.2 s hs)
theorem tall_len {l:List Slo}:(tall l).length≤l.length:=by
  rw[(tall_perm l).length_eq];exact List.length_filter_le _ _
theorem slow_s0:SloW s0:=⟨by simp[I64,s0],celW_z0⟩
theorem tierOk_w {l:List Slo} {w:Int} (h:TierOk l w):∀s∈l,SloW s:=by
  intro s hs
  obtain ⟨j,hj⟩:=List.getElem?_of_mem hs
  rcases h.s j s hj with rfl | ⟨_,hf⟩
  · exact slow_s0
  · have:=hf.i0
    exact ⟨by unfold I64;omega,.ofN hf.n⟩
theorem quo_ev {e:Ev} (h:EvOk e) {w:Int} (hw:1≤w):IntKind.wrap .i64 (Int.tdiv e.1 w)=e.1 / w:=by
  have h0:=h.t0;have h1:=h.t1
  have:0≤e.1 / w:=Int.ediv_nonneg h0 (by omega)
  have:e.1 / w≤e.1:=Int.ediv_le_self _ h0
  rw[tdiv_nn h0,w64 (by omega) (by omega)]
end Go.Proofs.YtjeabebacegikaaGreatDoor

namespace Go.Plim
set_option linter.unusedVariables false
def rng (w:Int) (l:List Ev) (i k:Int):List Ev:=l.filter fun e=>decide (i≤e.1 / w∧e.1 / w<k)
def win (w:Int) (l:List Ev) (i:Int):List Ev:=l.filter fun e=>decide (e.1 / w=i)
theorem tall_N {l:List Slo} {w:Int} (h:TierOk l w) {s:Slo} (hs:s∈tall l):CellN s.2:=(tall_fits h hs).1.n
structure TierInv (t:List Slo) (w:Int) (l:List Ev):Prop where
  ok:TierOk t w
  cells:∀s∈tall t,s.2=cellOf (win w l s.1)
  kept:∀i,(∃e∈l,e.1 / w=i)→(∀e∈l,e.1 / w<i+(t.length:Int))→(i,cellOf (win w l i))∈tall t
end Go.Plim

namespace Go.Proofs.YtjeabebacegikaaGreatDoor
open Go.Flat
abbrev Conf:=Int×((Int×(Int×Int))×((Int×(Int×Int))×(Int×Int)))
def prt (n e:Int):Int:=(n+e-1) / e
def plc (c:Conf):Int:=1+prt c.1 16+prt c.2.2.1.1 4+prt c.2.2.1.2.1 4+prt c.2.2.1.2.2 4
structure Rng (c:Conf):Prop where
  raw:1≤c.1∧c.1≤4096
  cap:1≤c.2.2.2.1∧c.2.2.2.1≤65536
  log:1≤c.2.2.2.2∧c.2.2.2.2≤8192
  w0:1≤c.2.1.1∧c.2.1.1≤1099511627776
  w1:1≤c.2.1.2.1∧c.2.1.2.1≤1099511627776
  w2:1≤c.2.1.2.2∧c.2.1.2.2≤1099511627776
  n0:1≤c.2.2.1.1∧c.2.2.1.1≤4096
  n1:1≤c.2.2.1.2.1∧c.2.2.1.2.1≤4096
  n2:1≤c.2.2.1.2.2∧c.2.2.1.2.2≤4096
structure OkC (c:Conf):Prop where
  rng:Rng c
  m1:c.2.1.2.1 % c.2.1.1=0
  d1:c.2.1.2.1 / c.2.1.1≤c.2.2.1.1
  m2:c.2.1.2.2 % c.2.1.2.1=0
  d2:c.2.1.2.2 / c.2.1.2.1≤c.2.2.1.2.1
  pl:plc c<c.2.2.2.2
theorem parts_val (n:Nat) (x e:Int) (he:1≤e) (he':e≤1000) (hx:0≤x) (hx':x≤1000000000):conf_parts (n+1) x e=some (prt x e):=by
  rw[conf_parts_eq]
  have h1:¬(e=0):=by omega
  simp only[tfd,if_neg h1]
  rw[w64 (x:=x+e) (by omega) (by omega),w64 (x:=x+e-1) (by omega) (by omega),tdiv_nn (by omega)]
  have h2:0≤(x+e-1) / e:=Int.ediv_nonneg (by omega) (by omega)
  have h3:(x+e-1) / e≤x+e-1:=Int.ediv_le_self _ (by omega)
  rw[w64 (by omega) (by omega)]
  rfl
theorem prt_step (x e:Int) (he:1≤e):prt x e=1+prt (x-e) e:=by
  unfold prt
  rw[show x+e-1=(x-e+e-1)+1*e by omega,Int.add_mul_ediv_right _ _ (by omega)]
  omega
theorem prt_zero (x e:Int) (h1 : -e<x) (hx:x≤0):prt x e=0:=Int.ediv_eq_zero_of_lt (by omega) (by omega)
theorem r10_parts_loop (n:Nat) (e:Int) (he:1≤e) (he':e≤1000):∀(m f:Nat) (x k:Int),x≤m → -e<x→m<f→0≤k→k+m≤1000000000→m≤1000000000→r10_parts_l2 n f (x,e,k,())=some (.inl (k+prt x e,())):=by
  intro m
  induction m with
  | zero =>
    intro f x k hx hx' hf hk hkm hm
    obtain ⟨f,rfl⟩:∃g,f=g+1:=⟨f-1,by omega⟩
    rw[r10_parts_l2_eq]
    have h1:¬((0:Int)<x):=by omega
    simp only[tfd,if_neg h1]
    rw[prt_zero x e hx' (by omega),Int.add_zero]
  | succ m ih =>
    intro f x k hx hx' hf hk hkm hm
    obtain ⟨f,rfl⟩:∃g,f=g+1:=⟨f-1,by omega⟩
    rw[r10_parts_l2_eq]
    by_cases h1:(0:Int)<x
    · simp only[tfd,if_pos h1]
      rw[w64 (x:=x-e) (by omega) (by omega),w64 (x:=k+1) (by omega) (by omega),ih f (x-e) (k+1) (by omega) (by omega) (by omega) (by omega) (by omega) (by omega),prt_step x e he]
      congr 3
      omega
    · simp only[tfd,if_neg h1]
      rw[prt_zero x e hx' (by omega),Int.add_zero]
theorem r10_parts_val (n:Nat) (x e:Int) (he:1≤e) (he':e≤1000) (hx:0≤x) (hx':x≤100000000):r10_parts (n+1) x e=some (prt x e):=by
  rw[r10_parts_eq,r10_parts_loop n e he he' x.toNat loopFuel x 0 (by omega) (by omega) (by unfold loopFuel;omega) (by omega) (by omega) (by omega)]
  simp
theorem prt_range {x e:Int} (he:1≤e) (hx:0≤x):0≤prt x e∧prt x e≤x:=by
  unfold prt
  refine ⟨Int.ediv_nonneg (by omega) (by omega),?_⟩
  have:x+e-1<(x+1)*e:=by
    have:=Int.mul_le_mul_of_nonneg_left he (show 0≤x by omega)
    rw[Int.add_mul];omega
  have:=Int.ediv_lt_of_lt_mul (by omega) this
  omega
theorem plc_range {c:Conf} (h:Rng c):1≤plc c∧plc c≤20000:=by
  have a:=prt_range (x:=c.1) (e:=16) (by omega) (by have:=h.raw;omega)
  have b:=prt_range (x:=c.2.2.1.1) (e:=4) (by omega) (by have:=h.n0;omega)
  have d:=prt_range (x:=c.2.2.1.2.1) (e:=4) (by omega) (by have:=h.n1;omega)
  have f:=prt_range (x:=c.2.2.1.2.2) (e:=4) (by omega) (by have:=h.n2;omega)
  have:=h.raw;have:=h.n0;have:=h.n1;have:=h.n2
  unfold plc
  omega
theorem place_val (n:Nat) {c:Conf} (h:Rng c):conf_place (n+2) c=some (plc c):=by
  have h0:=h.raw;have h1:=h.n0;have h2:=h.n1;have h3:=h.n2
  rw[conf_place_eq,parts_val n _ 16 (by omega) (by omega) (by omega) (by omega),parts_val n _ 4 (by omega) (by omega) (by omega) (by omega),parts_val n _ 4 (by omega) (by omega) (by omega) (by omega),parts_val n _ 4 (by omega) (by omega) (by omega) (by omega)]
  simp only[obs]
  have a:=prt_range (x:=c.1) (e:=16) (by omega) (by omega)
  have b:=prt_range (x:=c.2.2.1.1) (e:=4) (by omega) (by omega)
  have d:=prt_range (x:=c.2.2.1.2.1) (e:=4) (by omega) (by omega)
  have f:=prt_range (x:=c.2.2.1.2.2) (e:=4) (by omega) (by omega)
  rw[w64 (x:=1+_) (by omega) (by omega),w64 (x:=1+_+_) (by omega) (by omega),w64 (x:=1+_+_+_) (by omega) (by omega),w64 (by omega) (by omega)]
  rfl
theorem r10_place_val (n:Nat) {c:Conf} (h:Rng c):r10_place (n+2) c=some (plc c):=by
  have h0:=h.raw;have h1:=h.n0;have h2:=h.n1;have h3:=h.n2
  rw[r10_place_eq,r10_parts_val n _ 16 (by omega) (by omega) (by omega) (by omega),r10_parts_val n _ 4 (by omega) (by omega) (by omega) (by omega),r10_parts_val n _ 4 (by omega) (by omega) (by omega) (by omega),r10_parts_val n _ 4 (by omega) (by omega) (by omega) (by omega)]
  simp only[obs]
  have a:=prt_range (x:=c.1) (e:=16) (by omega) (by omega)
  have b:=prt_range (x:=c.2.2.1.1) (e:=4) (by omega) (by omega)
  have d:=prt_range (x:=c.2.2.1.2.1) (e:=4) (by omega) (by omega)
  have f:=prt_range (x:=c.2.2.1.2.2) (e:=4) (by omega) (by omega)
  rw[w64 (x:=1+_) (by omega) (by omega),w64 (x:=1+_+_) (by omega) (by omega),w64 (x:=1+_+_+_) (by omega) (by omega),w64 (by omega) (by omega)]
  rfl
theorem in_int (n:Nat) (x a b:Int):conf_in_int (n+1) x a b=some (decide (a≤x∧x≤b)):=by
  rw[conf_in_int_eq]
  by_cases h1:a≤x<;>by_cases h2:x≤b<;>simp[h1,h2]
theorem in_int64 (n:Nat) (x a b:Int):conf_in_int64 (n+1) x a b=some (decide (a≤x∧x≤b)):=by
  rw[conf_in_int64_eq]
  by_cases h1:a≤x<;>by_cases h2:x≤b<;>simp[h1,h2]
theorem quo_w {a b:Int} (ha:1≤a∧a≤1099511627776) (hb:1≤b):IntKind.wrap .i64 (Int.tdiv a b)=a / b:=by
  rw[tdiv_nn (by omega)]
  have h2:0≤a / b:=Int.ediv_nonneg (by omega) (by omega)
  have h3:a / b≤a:=Int.ediv_le_self _ (by omega)
  rw[w64 (by omega) (by omega)]
theorem check_ok (n:Nat) {c:Conf} (h:OkC c):conf_Check (n+3) c=some 0:=by
  obtain ⟨hr,m1,d1,m2,d2,pl⟩:=h
  have hp:=place_val n hr
  obtain ⟨raw,cap,log,w0,w1,w2,n0,n1,n2⟩:=hr
  rw[conf_Check_eq]
  simp only[in_int,in_int64,obs,tfd,if_pos raw,if_pos cap,if_pos log,if_pos w0,if_pos w1,if_pos w2,if_pos n0,if_pos n1,if_pos n2]
  have z0:¬(c.2.1.1=0):=by omega
  have z1:¬(c.2.1.2.1=0):=by omega
  rw[quo_w w1 w0.1,quo_w w2 w1.1,tmod_nn (a:=c.2.1.2.1) (by omega),tmod_nn (a:=c.2.1.2.2) (by omega)]
  have l:¬(c.2.2.2.2≤plc c):=by omega
  simp only[if_neg z0,if_neg z1,if_pos m1,if_pos d1,if_pos m2,if_pos d2,tfn,tfd,hp,obs,if_neg l]
theorem check_no (n:Nat) {c:Conf} (h:¬OkC c):conf_Check (n+3) c=some 2:=by
  rw[conf_Check_eq]
  simp only[in_int,in_int64,obs,tfd,tfn]
  by_cases raw:1≤c.1∧c.1≤4096
  case neg=>rw[if_neg raw]
  rw[if_pos raw]
  by_cases cap:1≤c.2.2.2.1∧c.2.2.2.1≤65536
  case neg=>rw[if_neg cap]
  rw[if_pos cap]
  by_cases log:1≤c.2.2.2.2∧c.2.2.2.2≤8192
  case neg=>rw[if_neg log]
  rw[if_pos log]
  by_cases w0:1≤c.2.1.1∧c.2.1.1≤1099511627776
  case neg=>rw[if_neg w0]
  rw[if_pos w0]
  by_cases n0:1≤c.2.2.1.1∧c.2.2.1.1≤4096
  case neg=>rw[if_neg n0]
  rw[if_pos n0]
  by_cases w1:1≤c.2.1.2.1∧c.2.1.2.1≤1099511627776
  case neg=>rw[if_neg w1]
  rw[if_pos w1]
  by_cases n1:1≤c.2.2.1.2.1∧c.2.2.1.2.1≤4096
  case neg=>rw[if_neg n1]
  rw[if_pos n1]
  by_cases w2:1≤c.2.1.2.2∧c.2.1.2.2≤1099511627776
  case neg=>rw[if_neg w2]
  rw[if_pos w2]
  by_cases n2:1≤c.2.2.1.2.2∧c.2.2.1.2.2≤4096
  case neg=>rw[if_neg n2,if_neg n2]
  rw[if_pos n2]
  have hr:Rng c:=⟨raw,cap,log,w0,w1,w2,n0,n1,n2⟩
  have hp:=place_val n hr
  have z0:¬(c.2.1.1=0):=by omega
  have z1:¬(c.2.1.2.1=0):=by omega
  rw[quo_w w1 w0.1,quo_w w2 w1.1,tmod_nn (a:=c.2.1.2.1) (by omega),tmod_nn (a:=c.2.1.2.2) (by omega)]
  rw[if_neg z0,if_neg z0]
  by_cases m1:c.2.1.2.1 % c.2.1.1=0
  case neg=>rw[if_neg m1]
  rw[if_pos m1]
  by_cases d1:c.2.1.2.1 / c.2.1.1≤c.2.2.1.1
  case neg=>rw[if_neg d1,if_neg d1]
  rw[if_pos d1,if_neg z1,if_neg z1]
  by_cases m2:c.2.1.2.2 % c.2.1.2.1=0
  case neg=>rw[if_neg m2]
  rw[if_pos m2]
  by_cases d2:c.2.1.2.2 / c.2.1.2.1≤c.2.2.1.2.1
  case neg=>rw[if_neg d2,if_neg d2]
  rw[if_pos d2,if_pos d2,hp]
  simp only[obs]
  by_cases pl:c.2.2.2.2≤plc c
  · rw[if_pos pl]
  · exact absurd ⟨hr,m1,d1,m2,d2,by omega⟩ h
theorem r10_check_ok (n:Nat) {c:Conf} (h:OkC c):r10_Check (n+3) c=some 0:=by
  obtain ⟨hr,m1,d1,m2,d2,pl⟩:=h
  have hp:=r10_place_val n hr
  obtain ⟨raw,cap,log,w0,w1,w2,n0,n1,n2⟩:=hr
  rw[r10_Check_eq]
  rw[quo_w w1 w0.1,quo_w w2 w1.1,tmod_nn (a:=c.2.1.2.1) (by omega),tmod_nn (a:=c.2.1.2.2) (by omega)]
  have l:¬(c.2.2.2.2≤plc c):=by omega
  simp only[tfd,tfn,hp,obs]
  rw[if_neg (by omega),if_neg (by omega),if_neg (by omega),if_neg (by omega),if_neg (by omega),if_neg (by omega),if_neg (by omega),if_neg (by omega),if_neg (by omega),if_neg (by omega),if_neg (by omega),if_neg (by omega),if_neg (by omega),if_neg (by omega),if_neg (by omega)]
  rw[if_pos m1,if_neg (by omega),if_neg (by omega),if_neg (by omega),if_neg (by omega),if_neg (by omega),if_neg (by omega),if_neg (by omega)]
  rw[if_pos m2,if_neg (by omega),if_neg (by omega),if_neg l]
theorem r10_check_no (n:Nat) {c:Conf} (h:¬OkC c):r10_Check (n+3) c=some 2:=by
  rw[r10_Check_eq]
  simp only[tfd,tfn]
  by_cases raw:1≤c.1∧c.1≤4096
  case neg =>
    by_cases z:c.1<1
    · rw[if_pos z]
    · rw[if_neg z,if_pos (by omega)]
  rw[if_neg (by omega),if_neg (by omega)]
  by_cases cap:1≤c.2.2.2.1∧c.2.2.2.1≤65536
  case neg =>
    by_cases z:c.2.2.2.1<1
    · rw[if_pos z]
    · rw[if_neg z,if_pos (by omega)]
  rw[if_neg (by omega),if_neg (by omega)]
  by_cases log:1≤c.2.2.2.2∧c.2.2.2.2≤8192
  case neg =>
    by_cases z:c.2.2.2.2<1
    · rw[if_pos z]
    · rw[if_neg z,if_pos (by omega)]
  rw[if_neg (by omega),if_neg (by omega)]
  by_cases w0:1≤c.2.1.1∧c.2.1.1≤1099511627776
  case neg =>
    by_cases z:c.2.1.1<1
    · rw[if_pos z]
    · rw[if_neg z,if_pos (by omega)]
  rw[if_neg (by omega),if_neg (by omega)]
  by_cases n0:1≤c.2.2.1.1∧c.2.2.1.1≤4096
  case neg =>
    by_cases z:c.2.2.1.1<1
    · rw[if_pos z]
    · rw[if_neg z,if_pos (by omega)]
  rw[if_neg (by omega),if_neg (by omega)]
  by_cases w1:1≤c.2.1.2.1∧c.2.1.2.1≤1099511627776
  case neg =>
    by_cases z:c.2.1.2.1<1
    · rw[if_pos z]
    · rw[if_neg z,if_pos (by omega)]
  rw[if_neg (by omega),if_neg (by omega)]
  by_cases n1:1≤c.2.2.1.2.1∧c.2.2.1.2.1≤4096
  case neg =>
    by_cases z:c.2.2.1.2.1<1
    · rw[if_pos z]
    · rw[if_neg z,if_pos (by omega)]
  rw[if_neg (by omega),if_neg (by omega),if_neg (by omega)]
  rw[tmod_nn (a:=c.2.1.2.1) (by omega),quo_w w1 w0.1]
  by_cases m1:c.2.1.2.1 % c.2.1.1=0
  case neg=>rw[if_neg m1]
  rw[if_pos m1,if_neg (by omega)]
  by_cases d1:c.2.1.2.1 / c.2.1.1≤c.2.2.1.1
  case neg=>rw[if_pos (by omega)]
  rw[if_neg (by omega)]
  by_cases w2:1≤c.2.1.2.2∧c.2.1.2.2≤1099511627776
  case neg =>
    by_cases z:c.2.1.2.2<1
    · rw[if_pos z]
    · rw[if_neg z,if_pos (by omega)]
  rw[if_neg (by omega),if_neg (by omega)]
  by_cases n2:1≤c.2.2.1.2.2∧c.2.2.1.2.2≤4096
  case neg =>
    by_cases z:c.2.2.1.2.2<1
    · rw[if_pos z]
    · rw[if_neg z,if_pos (by omega)]
  rw[if_neg (by omega),if_neg (by omega),if_neg (by omega)]
  rw[tmod_nn (a:=c.2.1.2.2) (by omega),quo_w w2 w1.1]
  by_cases m2:c.2.1.2.2 % c.2.1.2.1=0
  case neg=>rw[if_neg m2]
  rw[if_pos m2,if_neg (by omega)]
  by_cases d2:c.2.1.2.2 / c.2.1.2.1≤c.2.2.1.2.1
  case neg=>rw[if_pos (by omega)]
  rw[if_neg (by omega)]
  have hr:Rng c:=⟨raw,cap,log,w0,w1,w2,n0,n1,n2⟩
  rw[r10_place_val n hr]
  simp only[obs]
  by_cases pl:c.2.2.2.2≤plc c
  · rw[if_pos pl]
  · exact absurd ⟨hr,m1,d1,m2,d2,by omega⟩ h
end Go.Proofs.YtjeabebacegikaaGreatDoor
namespace Go.Proofs.YtjeabebacegikaaGreatDoor
open Go.Flat Go.Plim
set_option linter.unusedVariables false
abbrev Trs:=List Slo×(List Slo×List Slo)
noncomputable instance (c:Conf):Decidable (OkC c):=Classical.propDecidable _
structure FoldOk (c:Conf) (s:Trs):Prop where
  cok:OkC c
  n0:(s.1.length:Int)=c.2.2.1.1
  n1:(s.2.1.length:Int)=c.2.2.1.2.1
  n2:(s.2.2.length:Int)=c.2.2.1.2.2
  t0:TierOk s.1 c.2.1.1
  t1:TierOk s.2.1 c.2.1.2.1
  t2:TierOk s.2.2 c.2.1.2.2
noncomputable instance (c:Conf) (s:Trs):Decidable (FoldOk c s):=Classical.propDecidable _
def mk1 (c:Conf) (s:Trs) (i:Int):Cel×Int:=tfold s.1 (i*(c.2.1.2.1 / c.2.1.1)) ((i+1)*(c.2.1.2.1 / c.2.1.1))
theorem mul_div_le {a w m:Int} (hw:1≤w) (h:a≤m / w):a*w≤m :=
  Int.le_trans (Int.mul_le_mul_of_nonneg_right h (by omega)) (Int.ediv_mul_le m (by omega))
def Begins (w i:Int):Prop:=0≤i∧i≤35184372088831 / w
theorem Begins.mul {w i:Int} (hw:1≤w) (h:Begins w i):0≤i*w∧i*w≤35184372088831:=⟨Int.mul_nonneg h.1 (by omega),mul_div_le hw h.2⟩
end Go.Proofs.YtjeabebacegikaaGreatDoor
namespace Go.Proofs.YtjeabebacegikaaGreatDoor
open Go.Flat Go.Plim
set_option linter.unusedVariables false
set_option linter.unusedSimpArgs false
structure TrsW (s:Trs):Prop where
  a:∀x∈s.1,SloW x
  b:∀x∈s.2.1,SloW x
  c:∀x∈s.2.2,SloW x
theorem FoldOk.w {c:Conf} {s:Trs} (h:FoldOk c s):TrsW s:=⟨tierOk_w h.t0,tierOk_w h.t1,tierOk_w h.t2⟩
theorem conf_check (n:Nat) (c:Conf):conf_Check (n+3) c=some (if OkC c then 0 else 2):=by
  by_cases h:OkC c
  · rw[if_pos h,check_ok n h]
  · rw[if_neg h,check_no n h]
theorem r10_check (n:Nat) (c:Conf):r10_Check (n+3) c=some (if OkC c then 0 else 2):=by
  by_cases h:OkC c
  · rw[if_pos h,r10_check_ok n h]
  · rw[if_neg h,r10_check_no n h]
theorem fold_open_val (n:Nat) (c:Conf) {s:Trs} (hw:TrsW s):fold_open (n+8) c s=some (if FoldOk c s then (some (c,s),0) else (none,2)):=by
  rw[fold_open_eq,conf_check (n+4),tier_check n _ _ hw.a,tier_check n _ _ hw.b,tier_check n _ _ hw.c]
  simp only[obs,tfn,tfd]
  by_cases h0:OkC c
  case neg=>rw[if_neg (mt (z02 _).1 h0),if_neg h0,if_neg (fun k:FoldOk c s=>h0 k.cok)]
  rw[if_pos ((z02 _).2 h0)]
  by_cases h1:(s.1.length:Int)=c.2.2.1.1
  case neg=>rw[if_neg h1,if_neg (fun k:FoldOk c s=>h1 k.n0)]
  rw[if_pos h1]
  by_cases h2:TierOk s.1 c.2.1.1
  case neg=>rw[if_neg (mt (z02 _).1 h2),if_neg (fun k:FoldOk c s=>h2 k.t0)]
  rw[if_pos ((z02 _).2 h2)]
  by_cases h3:(s.2.1.length:Int)=c.2.2.1.2.1
  case neg=>rw[if_neg h3,if_neg (fun k:FoldOk c s=>h3 k.n1)]
  rw[if_pos h3]
  by_cases h4:TierOk s.2.1 c.2.1.2.1
  case neg=>rw[if_neg (mt (z02 _).1 h4),if_neg (fun k:FoldOk c s=>h4 k.t1)]
  rw[if_pos ((z02 _).2 h4)]
  by_cases h5:(s.2.2.length:Int)=c.2.2.1.2.2
  case neg=>rw[if_neg h5,if_neg (fun k:FoldOk c s=>h5 k.n2)]
  rw[if_pos h5]
  by_cases h6:TierOk s.2.2 c.2.1.2.2
  case neg=>rw[if_neg (mt (z02 _).1 h6),if_neg (fun k:FoldOk c s=>h6 k.t2)]
  rw[if_pos ((z02 _).2 h6),if_pos (⟨h0,h1,h3,h5,h2,h4,h6⟩:FoldOk c s)]
theorem r14_check (n:Nat) (c:Conf) {s:Trs} (hw:TrsW s):r14_Check (n+7) c s=some (if FoldOk c s then 0 else 2):=by
  rw[r14_Check_eq,r10_check (n+3),r13_check n _ _ hw.a,r13_check n _ _ hw.b,r13_check n _ _ hw.c]
  simp only[obs,tfn,tfd]
  by_cases h0:OkC c
  case neg=>rw[if_neg (mt (z02 _).1 h0),if_neg (fun k:FoldOk c s=>h0 k.cok)]
  rw[if_pos ((z02 _).2 h0)]
  by_cases h1:(s.1.length:Int)=c.2.2.1.1
  case neg=>rw[if_neg h1,if_neg (fun k:FoldOk c s=>h1 k.n0)]
  rw[if_pos h1]
  by_cases h2:TierOk s.1 c.2.1.1
  case neg=>rw[if_neg (mt (z02 _).1 h2),if_neg (fun k:FoldOk c s=>h2 k.t0)]
  rw[if_pos ((z02 _).2 h2)]
  by_cases h3:(s.2.1.length:Int)=c.2.2.1.2.1
  case neg=>rw[if_neg h3,if_neg (fun k:FoldOk c s=>h3 k.n1)]
  rw[if_pos h3]
  by_cases h4:TierOk s.2.1 c.2.1.2.1
  case neg=>rw[if_neg (mt (z02 _).1 h4),if_neg (fun k:FoldOk c s=>h4 k.t1)]
  rw[if_pos ((z02 _).2 h4)]
  by_cases h5:(s.2.2.length:Int)=c.2.2.1.2.2
  case neg=>rw[if_neg h5,if_neg (fun k:FoldOk c s=>h5 k.n2)]
  rw[if_pos h5]
  by_cases h6:TierOk s.2.2 c.2.1.2.2
  case neg=>rw[if_neg (mt (z02 _).1 h6),if_neg (fun k:FoldOk c s=>h6 k.t2)]
  rw[if_pos ((z02 _).2 h6),if_pos (⟨h0,h1,h3,h5,h2,h4,h6⟩:FoldOk c s)]
theorem fold_check (n:Nat) (c:Conf) {s:Trs} (hw:TrsW s):fold_Check (n+9) c s=some (if FoldOk c s then 0 else 2):=by
  rw[fold_Check_eq,fold_open_val n c hw]
  by_cases h:FoldOk c s
  · rw[if_pos h,if_pos h];rfl
  · rw[if_neg h,if_neg h];rfl
noncomputable def emp (c:Conf):Trs:=if OkC c then (List.replicate c.2.2.1.1.toNat s0,(List.replicate c.2.2.1.2.1.toNat s0,List.replicate c.2.2.1.2.2.toNat s0)) else ([],([],[]))
theorem FoldOk.lens {c:Conf} {s:Trs} (h:FoldOk c s):s.1.length≤1000000∧s.2.1.length≤1000000∧s.2.2.length≤1000000:=by
  have:=h.t0.l1;have:=h.t1.l1;have:=h.t2.l1;omega
theorem trs_wf {s:Trs} (h:Wf (.wrap (.pair (.slice tySlot) (.pair (.slice tySlot) (.slice tySlot)))) s):TrsW s:=by
  obtain ⟨h1,h2,h3⟩:=h
  exact ⟨slos_wf h1,slos_wf h2,slos_wf h3⟩
abbrev Ser:=List Lab×(Int×(Rw×(Trs×Slo)))
structure SerW (s:Ser):Prop where
  last:I64 s.2.1
  raw:RawW s.2.2.1
  trs:TrsW s.2.2.2.1
  opn:SloW s.2.2.2.2
def NoBehind (l:List Slo) (i:Int):Prop:=∀s∈l,0<s.2.1→s.1<i
noncomputable instance (l i):Decidable (NoBehind l i):=Classical.propDecidable _
structure Fresh (s:Ser):Prop where
  raw:s.2.2.1.2.2=[]
  opn:s.2.2.2.2=s0
  b0:NoBehind s.2.2.2.1.1 0
  b1:NoBehind s.2.2.2.1.2.1 0
  b2:NoBehind s.2.2.2.1.2.2 0
structure EndsP (c:Conf) (s:Ser):Prop where
  last:∃e,s.2.2.1.2.2.getLast? = some e∧e.1=s.2.1
  ol:s.2.2.2.2.2.2.2.1.1=s.2.1
  fit:FitsP s.2.2.2.2.2 c.2.1.1 s.2.2.2.2.1
  b0:NoBehind s.2.2.2.1.1 (s.2.1 / c.2.1.1)
  b1:NoBehind s.2.2.2.1.2.1 (s.2.1 / c.2.1.2.1)
  b2:NoBehind s.2.2.2.1.2.2 (s.2.1 / c.2.1.2.2)
structure SerOk (c:Conf) (s:Ser):Prop where
  fold:FoldOk c s.2.2.2.1
  lab:LabOk s.1
  raw:RawOk s.2.2.1 c.1
  st:(s.2.1 = -1∧Fresh s)∨(s.2.1 ≠ -1∧EndsP c s)
noncomputable instance (s):Decidable (Fresh s):=Classical.propDecidable _
noncomputable instance (c s):Decidable (EndsP c s):=Classical.propDecidable _
noncomputable instance (c s):Decidable (SerOk c s):=Classical.propDecidable _
theorem contains_slot (n:Nat) {del:TSlot×Unit→Option Bool} {p:Slo→Bool} (hd:∀x,del (x,())=some (p x)) (l:List Slo) (hL:l.length≤1000000):sl_ContainsFunc_Slot (n+2) l del=some (l.any p):=by
  rw[sl_ContainsFunc_Slot_eq,sl_IndexFunc_Slot_eq]
  rcases index_l hd n l hL l [] loopFuel 0 l.length rfl rfl rfl (by unfold loopFuel;omega) with ⟨h1,h2⟩ | ⟨A,x,B,h1,h2,h3,h4⟩
  · rw[h1]
    have:l.any p=false:=by rw[List.any_eq_false];intro x hx;simp[h2 x hx]
    rw[this];rfl
  · rw[h4]
    have:l.any p=true:=List.any_eq_true.2 ⟨x,by rw[h1];simp,h3⟩
    simp only[obs,selim_inr,this,Int.zero_add]
    rw[decide_eq_true (by omega)]
theorem series_behind_val (n:Nat) (l:List Slo) (i:Int) (hL:l.length≤1000000):series_behind (n+3) l i=some (!decide (NoBehind l i)):=by
  rw[series_behind_eq,contains_slot (p:=fun s=>decide (0<s.2.1∧i≤s.1)) n (fun x=>by
    show series_behind_1 (n+1+1) x i=_
    rw[series_behind_1_eq]
    by_cases h1:0<x.2.1<;>by_cases h2:i≤x.1<;>simp[h1,h2]) l hL]
  simp only[obs]
  refine congrArg some ?_
  by_cases h:NoBehind l i
  · rw[decide_eq_true h]
    rw[List.any_eq_false.2]
    · rfl
    · intro x hx k
      have:=of_decide_eq_true k
      have:=h x hx this.1
      omega
  · rw[decide_eq_false h]
    have:∃x∈l,0<x.2.1∧i≤x.1:=Classical.byContradiction fun k=>h fun x hx hc=>by
      rcases Int.lt_or_le x.1 i with q | q
      · exact q
      · exact absurd ⟨x,hx,hc,q⟩ k
    obtain ⟨x,hx,hq⟩:=this
    rw[List.any_eq_true.2 ⟨x,hx,decide_eq_true hq⟩]
    rfl
theorem kept_fresh (n:Nat) (c:Conf) {s:Ser} (hf:FoldOk c s.2.2.2.1):srk_fresh (n+4) (c,s)=some (decide (Fresh s)):=by
  obtain ⟨l0,l1,l2⟩:=hf.lens
  rw[srk_fresh_eq,sloEq0,series_behind_val n _ _ l0,series_behind_val n _ _ l1,series_behind_val n _ _ l2]
  simp only[obs,Bool.not_not,tfd]
  by_cases h1:(s.2.2.1.2.2.length:Int)=0
  case neg=>rw[if_neg h1,decide_eq_false (fun k:Fresh s=>h1 (by rw[k.raw];rfl))]
  rw[if_pos h1]
  by_cases h2:s.2.2.2.2=s0
  case neg=>rw[if_neg h2,decide_eq_false (fun k:Fresh s=>h2 k.opn)]
  rw[if_pos h2]
  by_cases h3:NoBehind s.2.2.2.1.1 0
  case neg=>rw[if_neg h3,decide_eq_false (fun k:Fresh s=>h3 k.b0)]
  rw[if_pos h3]
  by_cases h4:NoBehind s.2.2.2.1.2.1 0
  case neg=>rw[if_neg h4,decide_eq_false (fun k:Fresh s=>h4 k.b1)]
  rw[if_pos h4]
  refine congrArg some (decide_eq_decide.2 ⟨fun k=>⟨List.length_eq_zero_iff.1 (by omega),h2,h3,h4,k⟩,fun k=>k.b2⟩)
theorem last_ok {c:Conf} {s:Ser} (hr:RawOk s.2.2.1 c.1) {e:Ev} (he:s.2.2.1.2.2.getLast? = some e):EvOk e:=hr.f.ok e (List.mem_of_getLast? he)
theorem kept_ends (n:Nat) (c:Conf) {s:Ser} (hf:FoldOk c s.2.2.2.1) (hr:RawOk s.2.2.1 c.1) (hw:SerW s):srk_ends (n+7) (c,s)=some (decide (EndsP c s)):=by
  obtain ⟨l0,l1,l2⟩:=hf.lens
  have hg:=hf.cok.rng
  have hlen:=hr.len;have hm1:=hr.m1
  rw[srk_ends_eq,raw_last (n+5) s.2.2.1 (by omega)]
  cases hl:s.2.2.1.2.2.getLast? with
  | none =>
    simp only[obs]
    rw[show (decide ((3:Int)=0))=false from rfl,tff,decide_eq_false]
    intro k
    obtain ⟨e,he,_⟩:=k.last
    rw[hl] at he;cases he
  | some e =>
    have heo:=last_ok hr hl
    simp only[obs,decide_true,tft,tfd,if_true]
    by_cases h1:e.1=s.2.1
    case neg =>
      rw[if_neg h1,decide_eq_false]
      intro k
      obtain ⟨e',he,hq⟩:=k.last
      rw[hl] at he;injection he with he;subst he;exact h1 hq
    rw[if_pos h1]
    by_cases h2:s.2.2.2.2.2.2.2.1.1=s.2.1
    case neg=>rw[if_neg h2,decide_eq_false (fun k:EndsP c s=>h2 k.ol)]
    have q0:=quo_ev heo hg.w0.1;have q1:=quo_ev heo hg.w1.1;have q2:=quo_ev heo hg.w2.1
    rw[h1] at q0 q1 q2
    rw[if_pos h2,tier_fits n hw.opn.c]
    simp only[obs,tfd,q0,q1,q2,series_behind_val (n+3) _ _ l0,series_behind_val (n+3) _ _ l1,series_behind_val (n+3) _ _ l2,Bool.not_not,if_neg (show ¬(c.2.1.1=0) by have:=hg.w0;omega),if_neg (show ¬(c.2.1.2.1=0) by have:=hg.w1;omega),if_neg (show ¬(c.2.1.2.2=0) by have:=hg.w2;omega)]
    by_cases h3:FitsP s.2.2.2.2.2 c.2.1.1 s.2.2.2.2.1
    case neg=>rw[if_neg h3,decide_eq_false (fun k:EndsP c s=>h3 k.fit)]
    rw[if_pos h3]
    by_cases h4:NoBehind s.2.2.2.1.1 (s.2.1 / c.2.1.1)
    case neg=>rw[if_neg h4,decide_eq_false (fun k:EndsP c s=>h4 k.b0)]
    rw[if_pos h4]
    by_cases h5:NoBehind s.2.2.2.1.2.1 (s.2.1 / c.2.1.2.1)
    case neg=>rw[if_neg h5,decide_eq_false (fun k:EndsP c s=>h5 k.b1)]
    rw[if_pos h5]
    refine congrArg some (decide_eq_decide.2 ⟨fun k=>⟨⟨e,hl,h1⟩,h2,h3,h4,h5,k⟩,fun k=>k.b2⟩)
theorem z08 (p:Prop) [Decidable p]:((if p then (0:Int) else 8)=0)↔p:=by by_cases h:p<;>simp[h]
theorem series_open_val (n:Nat) (c:Conf) {s:Ser} (hw:SerW s):series_open (n+10) c s=some (if SerOk c s then (some (c,s),0) else (none,2)):=by
  rw[series_open_eq,fold_check n c hw.trs,label_check (n+3),raw_check (n+4) _ _ hw.raw]
  simp only[obs,tfn,tfd]
  by_cases h1:FoldOk c s.2.2.2.1
  case neg=>rw[if_neg (mt (z02 _).1 h1),if_neg (fun k:SerOk c s=>h1 k.fold)]
  by_cases h2:LabOk s.1
  case neg=>rw[if_pos ((z02 _).2 h1),if_neg (mt (z08 _).1 h2),if_neg (fun k:SerOk c s=>h2 k.lab)]
  by_cases h3:RawOk s.2.2.1 c.1
  case neg=>rw[if_pos ((z02 _).2 h1),if_pos ((z08 _).2 h2),if_neg (mt (z02 _).1 h3),if_neg (fun k:SerOk c s=>h3 k.raw)]
  rw[if_pos ((z02 _).2 h1),if_pos ((z08 _).2 h2),if_pos ((z02 _).2 h3),kept_fresh (n+5) c h1,kept_ends (n+2) c h1 h3 hw]
  simp only[obs,tfd]
  by_cases h4:s.2.1 = -1
  · rw[if_pos h4]
    by_cases h5:Fresh s
    · rw[if_pos h5,if_pos (⟨h1,h2,h3,.inl ⟨h4,h5⟩⟩:SerOk c s)]
    · rw[if_neg h5,if_pos h4,if_neg (fun k:SerOk c s=>by
        rcases k.st with q | q
        · exact h5 q.2
        · exact q.1 h4)]
  · rw[if_neg h4,if_neg h4]
    by_cases h5:EndsP c s
    · rw[if_pos h5,if_pos (⟨h1,h2,h3,.inr ⟨h4,h5⟩⟩:SerOk c s)]
    · rw[if_neg h5,if_neg (fun k:SerOk c s=>by
        rcases k.st with q | q
        · exact h4 q.1
        · exact h5 q.2)]
theorem noBehind_iff {l:List Slo} {w:Int} (h:TierOk l w) (i:Int):NoBehind l i↔∀s∈tall l,s.1<i:=by
  constructor
  · intro k s hs
    have:=(tall_N h hs).n1
    exact k s (mem_tall.1 hs).1 (by omega)
  · intro k s hs hc
    exact k s (mem_tall.2 ⟨hs,fun e=>by rw[e] at hc;simp[s0,z0] at hc⟩)
theorem noBehind0 {l:List Slo} {w:Int} (h:TierOk l w):NoBehind l 0↔tall l=[]:=by
  rw[noBehind_iff h]
  constructor
  · intro k
    by_cases e:tall l=[]
    · exact e
    · obtain ⟨s,hs⟩:=List.exists_mem_of_ne_nil _ e
      have:=(tall_fits h hs).1.i0
      have:=k s hs
      omega
  · intro e s hs;rw[e] at hs;cases hs
theorem r15_l7_3 (n f:Nat) (s:Ser):r15_Check_l7 n (f+1) (s,(3:Int),())=some (.inl ()):=by
  rw[r15_Check_l7_eq,show (decide ((3:Int)<3))=false from rfl,tff]
theorem r15_l7 (n f:Nat) (c:Conf) {s:Ser} (h:FoldOk c s.2.2.2.1):r15_Check_l7 (n+1) (f+4) (s,(0:Int),())=some (if NoBehind s.2.2.2.1.1 0∧NoBehind s.2.2.2.1.2.1 0∧NoBehind s.2.2.2.1.2.2 0 then .inl () else .inr 2):=by
  have n0:=noBehind0 h.t0;have n1:=noBehind0 h.t1;have n2:=noBehind0 h.t2
  have len:∀ {l:List Slo},((0:Int)<(tall l).length)↔tall l≠[]:=fun {l}=>by
    have:=List.length_pos_iff (l:=tall l)
    constructor
    · intro k;exact this.1 (by omega)
    · intro k;have:=this.2 k;omega
  rw[r15_Check_l7_eq,show (decide ((0:Int)<3))=true from rfl,tft,show (decide ((0:Int)=0))=true from rfl,tft,r13_all n h.t0]
  simp only[obs,tfd]
  by_cases c0:NoBehind s.2.2.2.1.1 0
  case neg=>rw[if_pos (len.2 (mt n0.2 c0)),if_neg (fun k=>c0 k.1)]
  rw[if_neg (fun k=>(len.1 k) (n0.1 c0)),show IntKind.wrap .i64 ((0:Int)+1)=1 from rfl,r15_Check_l7_eq,show (decide ((1:Int)<3))=true from rfl,tft,show (decide ((1:Int)=0))=false from rfl,tff,show (decide ((1:Int)=1))=true from rfl,tft,r13_all n h.t1]
  simp only[obs,tfd]
  by_cases c1:NoBehind s.2.2.2.1.2.1 0
  case neg=>rw[if_pos (len.2 (mt n1.2 c1)),if_neg (fun k=>c1 k.2.1)]
  rw[if_neg (fun k=>(len.1 k) (n1.1 c1)),show IntKind.wrap .i64 ((1:Int)+1)=2 from rfl,r15_Check_l7_eq,show (decide ((2:Int)<3))=true from rfl,tft,show (decide ((2:Int)=0))=false from rfl,tff,show (decide ((2:Int)=1))=false from rfl,tff,show (decide ((2:Int)=2))=true from rfl,tft,r13_all n h.t2]
  simp only[obs,tfd]
  by_cases c2:NoBehind s.2.2.2.1.2.2 0
  case neg=>rw[if_pos (len.2 (mt n2.2 c2)),if_neg (fun k=>c2 k.2.2)]
  rw[if_neg (fun k=>(len.1 k) (n2.1 c2)),show IntKind.wrap .i64 ((2:Int)+1)=3 from rfl,r15_l7_3,if_pos ⟨c0,c1,c2⟩]
theorem r15_l19_0 (n:Nat) (c:Conf) (s:Ser) (at_:Int) (hw:1≤c.2.1.1) (hq:IntKind.wrap .i64 (Int.tdiv s.2.1 c.2.1.1)=at_) (l:List Slo) (hL:l.length≤1000000):∀(rest pre:List Slo) (f:Nat) (ix len:Int),l=pre++rest→ix=pre.length→len=l.length→rest.length<f →
    ((∀x∈rest,x.1<at_)→r15_Check_l19 n f (c,s,(0:Int),l,len,ix,())=some (.inl (c,s,(0:Int),())))∧(¬(∀x∈rest,x.1<at_)→r15_Check_l19 n f (c,s,(0:Int),l,len,ix,())=some (.inr 2)):=by
  intro rest
  induction rest with
  | nil =>
    intro pre f ix len hl hi hn hf
    obtain ⟨f,rfl⟩:∃g,f=g+1:=⟨f-1,by simp at hf;omega⟩
    rw[r15_Check_l19_eq]
    exact ⟨fun _=>by simp only[tfd,if_neg (idxe hl hi hn)],fun k=>absurd (by simp) k⟩
  | cons x rest ih =>
    intro pre f ix len hl hi hn hf
    obtain ⟨f,rfl⟩:∃g,f=g+1:=⟨f-1,by simp at hf;omega⟩
    rw[r15_Check_l19_eq,decide_eq_true (idx hl hi hn),tft,at_mid hl hi,obs]
    rw[show (decide ((0:Int)=0))=true from rfl,tft]
    simp only[tfd,if_neg (show ¬(c.2.1.1=0) by omega),hq,idxw hl hi (show l.length≤1000000000000 by omega)]
    have ih':=ih (pre++[x]) f (ix+1) len (idxl hl) (idxs hi) hn (by simp at hf;omega)
    by_cases h1:at_≤x.1
    · rw[if_pos h1]
      exact ⟨fun k=>by have:=k x (by simp);omega,fun _=>rfl⟩
    · rw[if_neg h1]
      exact ⟨fun k=>ih'.1 fun y hy=>k y (by simp[hy]),fun k=>ih'.2 fun q=>k fun y hy=>by
        rcases List.mem_cons.1 hy with rfl | hy
        · omega
        · exact q y hy⟩
theorem r15_l19_1 (n:Nat) (c:Conf) (s:Ser) (at_:Int) (hw:1≤c.2.1.2.1) (hq:IntKind.wrap .i64 (Int.tdiv s.2.1 c.2.1.2.1)=at_) (l:List Slo) (hL:l.length≤1000000):∀(rest pre:List Slo) (f:Nat) (ix len:Int),l=pre++rest→ix=pre.length→len=l.length→rest.length<f →
    ((∀x∈rest,x.1<at_)→r15_Check_l19 n f (c,s,(1:Int),l,len,ix,())=some (.inl (c,s,(1:Int),())))∧(¬(∀x∈rest,x.1<at_)→r15_Check_l19 n f (c,s,(1:Int),l,len,ix,())=some (.inr 2)):=by
  intro rest
  induction rest with
  | nil =>
    intro pre f ix len hl hi hn hf
    obtain ⟨f,rfl⟩:∃g,f=g+1:=⟨f-1,by simp at hf;omega⟩
    rw[r15_Check_l19_eq]
    exact ⟨fun _=>by simp only[tfd,if_neg (idxe hl hi hn)],fun k=>absurd (by simp) k⟩
  | cons x rest ih =>
    intro pre f ix len hl hi hn hf
    obtain ⟨f,rfl⟩:∃g,f=g+1:=⟨f-1,by simp at hf;omega⟩
    rw[r15_Check_l19_eq,decide_eq_true (idx hl hi hn),tft,at_mid hl hi,obs]
    rw[show (decide ((1:Int)=0))=false from rfl,tff,show (decide ((1:Int)=1))=true from rfl,tft]
    simp only[tfd,if_neg (show ¬(c.2.1.2.1=0) by omega),hq,idxw hl hi (show l.length≤1000000000000 by omega)]
    have ih':=ih (pre++[x]) f (ix+1) len (idxl hl) (idxs hi) hn (by simp at hf;omega)
    by_cases h1:at_≤x.1
    · rw[if_pos h1]
      exact ⟨fun k=>by have:=k x (by simp);omega,fun _=>rfl⟩
    · rw[if_neg h1]
      exact ⟨fun k=>ih'.1 fun y hy=>k y (by simp[hy]),fun k=>ih'.2 fun q=>k fun y hy=>by
        rcases List.mem_cons.1 hy with rfl | hy
        · omega
        · exact q y hy⟩
theorem r15_l19_2 (n:Nat) (c:Conf) (s:Ser) (at_:Int) (hw:1≤c.2.1.2.2) (hq:IntKind.wrap .i64 (Int.tdiv s.2.1 c.2.1.2.2)=at_) (l:List Slo) (hL:l.length≤1000000):∀(rest pre:List Slo) (f:Nat) (ix len:Int),l=pre++rest→ix=pre.length→len=l.length→rest.length<f →
    ((∀x∈rest,x.1<at_)→r15_Check_l19 n f (c,s,(2:Int),l,len,ix,())=some (.inl (c,s,(2:Int),())))∧(¬(∀x∈rest,x.1<at_)→r15_Check_l19 n f (c,s,(2:Int),l,len,ix,())=some (.inr 2)):=by
  intro rest
  induction rest with
  | nil =>
    intro pre f ix len hl hi hn hf
    obtain ⟨f,rfl⟩:∃g,f=g+1:=⟨f-1,by simp at hf;omega⟩
    rw[r15_Check_l19_eq]
    exact ⟨fun _=>by simp only[tfd,if_neg (idxe hl hi hn)],fun k=>absurd (by simp) k⟩
  | cons x rest ih =>
    intro pre f ix len hl hi hn hf
    obtain ⟨f,rfl⟩:∃g,f=g+1:=⟨f-1,by simp at hf;omega⟩
    rw[r15_Check_l19_eq,decide_eq_true (idx hl hi hn),tft,at_mid hl hi,obs]
    rw[show (decide ((2:Int)=0))=false from rfl,tff,show (decide ((2:Int)=1))=false from rfl,tff,show (decide ((2:Int)=2))=true from rfl,tft]
    simp only[tfd,if_neg (show ¬(c.2.1.2.2=0) by omega),hq,idxw hl hi (show l.length≤1000000000000 by omega)]
    have ih':=ih (pre++[x]) f (ix+1) len (idxl hl) (idxs hi) hn (by simp at hf;omega)
    by_cases h1:at_≤x.1
    · rw[if_pos h1]
      exact ⟨fun k=>by have:=k x (by simp);omega,fun _=>rfl⟩
    · rw[if_neg h1]
      exact ⟨fun k=>ih'.1 fun y hy=>k y (by simp[hy]),fun k=>ih'.2 fun q=>k fun y hy=>by
        rcases List.mem_cons.1 hy with rfl | hy
        · omega
        · exact q y hy⟩
theorem r15_l16_3 (n f:Nat) (c:Conf) (s:Ser):r15_Check_l16 n (f+1) (c,s,(3:Int),())=some (.inl ()):=by
  rw[r15_Check_l16_eq,show (decide ((3:Int)<3))=false from rfl,tff]
theorem r15_l16 (n f:Nat) (c:Conf) {s:Ser} (h:FoldOk c s.2.2.2.1) {e:Ev} (he:EvOk e) (hes:e.1=s.2.1):r15_Check_l16 (n+1) (f+4) (c,s,(0:Int),()) =
    some (if NoBehind s.2.2.2.1.1 (s.2.1 / c.2.1.1)∧NoBehind s.2.2.2.1.2.1 (s.2.1 / c.2.1.2.1)∧NoBehind s.2.2.2.1.2.2 (s.2.1 / c.2.1.2.2) then .inl () else .inr 2):=by
  have n0:=noBehind_iff h.t0 (s.2.1 / c.2.1.1);have n1:=noBehind_iff h.t1 (s.2.1 / c.2.1.2.1);have n2:=noBehind_iff h.t2 (s.2.1 / c.2.1.2.2)
  have hg:=h.cok.rng
  have q0:=quo_ev he hg.w0.1;have q1:=quo_ev he hg.w1.1;have q2:=quo_ev he hg.w2.1
  rw[hes] at q0 q1 q2
  obtain ⟨l0,l1,l2⟩:=h.lens
  have t0:=tall_len (l:=s.2.2.2.1.1);have t1:=tall_len (l:=s.2.2.2.1.2.1);have t2:=tall_len (l:=s.2.2.2.1.2.2)
  have k0:=r15_l19_0 (n+1) c s _ hg.w0.1 q0 (tall s.2.2.2.1.1) (by omega) (tall s.2.2.2.1.1) [] loopFuel 0 ((tall s.2.2.2.1.1).length:Int) rfl rfl rfl (by unfold loopFuel;omega)
  have k1:=r15_l19_1 (n+1) c s _ hg.w1.1 q1 (tall s.2.2.2.1.2.1) (by omega) (tall s.2.2.2.1.2.1) [] loopFuel 0 ((tall s.2.2.2.1.2.1).length:Int) rfl rfl rfl (by unfold loopFuel;omega)
  have k2:=r15_l19_2 (n+1) c s _ hg.w2.1 q2 (tall s.2.2.2.1.2.2) (by omega) (tall s.2.2.2.1.2.2) [] loopFuel 0 ((tall s.2.2.2.1.2.2).length:Int) rfl rfl rfl (by unfold loopFuel;omega)
  rw[←n0] at k0;rw[←n1] at k1;rw[←n2] at k2
  rw[r15_Check_l16_eq,show (decide ((0:Int)<3))=true from rfl,tft,show (decide ((0:Int)=0))=true from rfl,tft,r13_all n h.t0,obs]
  by_cases c0:NoBehind s.2.2.2.1.1 (s.2.1 / c.2.1.1)
  case neg=>rw[k0.2 c0,if_neg (fun k=>c0 k.1)];rfl
  rw[k0.1 c0]
  simp only[obs,selim_inl]
  rw[show IntKind.wrap .i64 ((0:Int)+1)=1 from rfl,r15_Check_l16_eq,show (decide ((1:Int)<3))=true from rfl,tft,show (decide ((1:Int)=0))=false from rfl,tff,show (decide ((1:Int)=1))=true from rfl,tft,r13_all n h.t1,obs]
  by_cases c1:NoBehind s.2.2.2.1.2.1 (s.2.1 / c.2.1.2.1)
  case neg=>rw[k1.2 c1,if_neg (fun k=>c1 k.2.1)];rfl
  rw[k1.1 c1]
  simp only[obs,selim_inl]
  rw[show IntKind.wrap .i64 ((1:Int)+1)=2 from rfl,r15_Check_l16_eq,show (decide ((2:Int)<3))=true from rfl,tft,show (decide ((2:Int)=0))=false from rfl,tff,show (decide ((2:Int)=1))=false from rfl,tff,show (decide ((2:Int)=2))=true from rfl,tft,r13_all n h.t2,obs]
  by_cases c2:NoBehind s.2.2.2.1.2.2 (s.2.1 / c.2.1.2.2)
  case neg=>rw[k2.2 c2,if_neg (fun k=>c2 k.2.2)];rfl
  rw[k2.1 c2]
  simp only[obs,selim_inl]
  rw[show IntKind.wrap .i64 ((2:Int)+1)=3 from rfl,r15_l16_3,if_pos ⟨c0,c1,c2⟩]
theorem r15_check (n:Nat) (c:Conf) {s:Ser} (hw:SerW s):r15_Check (n+8) c s=some (if SerOk c s then 0 else 2):=by
  rw[r15_Check_eq,r10_check (n+4),r05_check (n+5),r12_check (n+5) _ _ hw.raw,r14_check n c hw.trs]
  simp only[obs,tfn,tfd,sloEq0]
  by_cases h0:OkC c
  case neg=>rw[if_neg (mt (z02 _).1 h0),if_neg (fun k:SerOk c s=>h0 k.fold.cok)]
  by_cases h2:LabOk s.1
  case neg=>rw[if_pos ((z02 _).2 h0),if_neg (mt (z08 _).1 h2),if_neg (fun k:SerOk c s=>h2 k.lab)]
  by_cases h3:RawOk s.2.2.1 c.1
  case neg=>rw[if_pos ((z02 _).2 h0),if_pos ((z08 _).2 h2),if_neg (mt (z02 _).1 h3),if_neg (fun k:SerOk c s=>h3 k.raw)]
  by_cases h1:FoldOk c s.2.2.2.1
  case neg=>rw[if_pos ((z02 _).2 h0),if_pos ((z08 _).2 h2),if_pos ((z02 _).2 h3),if_neg (mt (z02 _).1 h1),if_neg (fun k:SerOk c s=>h1 k.fold)]
  have hlen:=h3.len;have hm1:=h3.m1
  rw[if_pos ((z02 _).2 h0),if_pos ((z08 _).2 h2),if_pos ((z02 _).2 h3),if_pos ((z02 _).2 h1),show loopFuel=(2^70-4)+4 from by decide,r15_l7 (n+6) _ c h1,r12_last _ _ (by omega),r13_fits (n+2) hw.opn.c]
  by_cases h4:s.2.1 = -1
  · rw[if_pos h4]
    by_cases h5:(0:Int)<s.2.2.1.2.2.length
    · rw[if_pos h5,if_neg (fun k:SerOk c s=>by
        rcases k.st with q | q
        · rw[q.2.raw] at h5;simp at h5
        · exact q.1 h4)]
    rw[if_neg h5]
    by_cases h6:s.2.2.2.2=s0
    case neg=>rw[if_neg h6,if_neg (fun k:SerOk c s=>by
        rcases k.st with q | q
        · exact h6 q.2.opn
        · exact q.1 h4)]
    rw[if_pos h6,obs]
    by_cases h7:NoBehind s.2.2.2.1.1 0∧NoBehind s.2.2.2.1.2.1 0∧NoBehind s.2.2.2.1.2.2 0
    · rw[if_pos h7,if_pos (⟨h1,h2,h3,.inl ⟨h4,⟨List.length_eq_zero_iff.1 (by omega),h6,h7.1,h7.2.1,h7.2.2⟩⟩⟩:SerOk c s)];rfl
    · rw[if_neg h7,if_neg (fun k:SerOk c s=>by
        rcases k.st with q | q
        · exact h7 ⟨q.2.b0,q.2.b1,q.2.b2⟩
        · exact q.1 h4)];rfl
  · rw[if_neg h4]
    have no:∀ {p:Prop},(EndsP c s→p)→¬p→(if SerOk c s then (0:Int) else 2)=2:=fun hp hn=>if_neg (fun k:SerOk c s=>by
      rcases k.st with q | q
      · exact h4 q.1
      · exact hn (hp q.2))
    cases hl:s.2.2.1.2.2.getLast? with
    | none =>
      simp only[obs]
      rw[if_neg (by decide),no (fun k=>k.last) (fun ⟨e,he,_⟩=>by rw[hl] at he;cases he)]
    | some e =>
      have heo:=last_ok h3 hl
      simp only[obs,if_true,tfd]
      by_cases h5:e.1=s.2.1
      case neg=>rw[if_neg h5,no (fun k=>k.last) (fun ⟨e',he,hq⟩=>by rw[hl] at he;injection he with he;subst he;exact h5 hq)]
      rw[if_pos h5]
      by_cases h6:FitsP s.2.2.2.2.2 c.2.1.1 s.2.2.2.2.1
      case neg=>rw[if_neg h6,no (fun k=>k.fit) h6]
      rw[if_pos h6]
      by_cases h7:s.2.2.2.2.2.2.2.1.1=s.2.1
      case neg=>rw[if_neg h7,no (fun k=>k.ol) h7]
      rw[if_pos h7,r15_l16 (n+6) _ c h1 heo h5,obs]
      by_cases h8:NoBehind s.2.2.2.1.1 (s.2.1 / c.2.1.1)∧NoBehind s.2.2.2.1.2.1 (s.2.1 / c.2.1.2.1)∧NoBehind s.2.2.2.1.2.2 (s.2.1 / c.2.1.2.2)
      · rw[if_pos h8,if_pos (⟨h1,h2,h3,.inr ⟨h4,⟨⟨e,hl,h5⟩,h7,h6,h8.1,h8.2.1,h8.2.2⟩⟩⟩:SerOk c s)];rfl
      · rw[if_neg h8,no (fun k=>And.intro k.b0 (And.intro k.b1 k.b2)) h8];rfl
theorem nn {α:Type} {a b:α} (h:a=b):¬(a≠b):=fun k=>k h
def ser0:Ser:=([],(0,(r0w,(([],([],[])),s0))))
end Go.Proofs.YtjeabebacegikaaGreatDoor

namespace Go.Plim
set_option linter.unusedVariables false
def below (w:Int) (l:List Ev) (t:Int):List Ev:=l.filter fun e=>decide (e.1 / w<t / w)
structure EndsAt (l:List Ev) (t:Int):Prop where
  foll:Foll l
  le:∀e∈l,e.1≤t
  last:∃e∈l,e.1=t
end Go.Plim
namespace Go.Proofs.YtjeabebacegikaaGreatDoor
open Go.Flat Go.Plim
structure FInv (c:Conf) (s:Trs) (l:List Ev) (t:Int):Prop where
  ok:FoldOk c s
  i0:TierInv s.1 c.2.1.1 (below c.2.1.1 l t)
  i1:TierInv s.2.1 c.2.1.2.1 (below c.2.1.2.1 l t)
  i2:TierInv s.2.2 c.2.1.2.2 (below c.2.1.2.2 l t)
end Go.Proofs.YtjeabebacegikaaGreatDoor
namespace Go.Proofs.YtjeabebacegikaaGreatDoor
open Go.Flat Go.Plim
set_option linter.unusedVariables false
set_option linter.unusedSimpArgs false
noncomputable def now1 (c:Conf) (s:Ser):Cel×Int:=mrgE (tfold s.2.2.2.1.1 (s.2.1 / c.2.1.2.1*(c.2.1.2.1 / c.2.1.1)) (s.2.1 / c.2.1.1)).1 s.2.2.2.2.2
noncomputable def now2 (c:Conf) (s:Ser):Cel×Int :=
  if (now1 c s).2≠0 then (z0,(now1 c s).2) else mrgE (tfold s.2.2.2.1.2.1 (s.2.1 / c.2.1.2.2*(c.2.1.2.2 / c.2.1.2.1)) (s.2.1 / c.2.1.2.1)).1 (now1 c s).1
structure At (c:Conf) (s:Ser):Prop where
  l0:0≤s.2.1
  l1:s.2.1<35184372088832
theorem quo_at {t:Int} (ht:0≤t∧t<35184372088832) {w:Int} (hw:1≤w):IntKind.wrap .i64 (Int.tdiv t w)=t / w:=by
  have:0≤t / w:=Int.ediv_nonneg ht.1 (by omega)
  have:t / w≤t:=Int.ediv_le_self _ ht.1
  rw[tdiv_nn ht.1,w64 (by omega) (by omega)]
theorem small_l2_3 (n f:Nat) (s:Trs):l14_Small_l2 n (f+1) (s,(3:Int),())=some (.inl ()):=by
  rw[l14_Small_l2_eq,show (decide ((3:Int)<3))=false from rfl,tff]
theorem small_l2_2 (n f:Nat) (s:Trs):l14_Small_l2 n (f+2) (s,(2:Int),())=some (if (40:Int)<s.2.2.length then .inr 0 else .inl ()):=by
  rw[l14_Small_l2_eq,show (decide ((2:Int)<3))=true from rfl,tft,show (decide ((2:Int)=0))=false from rfl,tff,show (decide ((2:Int)=1))=false from rfl,tff,show (decide ((2:Int)=2))=true from rfl,tft]
  rw[show IntKind.wrap .i64 ((2:Int)+1)=3 from rfl,small_l2_3]
  simp only[tfd]
  split<;>rfl
theorem small_l2_1 (n f:Nat) (s:Trs):l14_Small_l2 n (f+3) (s,(1:Int),())=some (if (40:Int)<s.2.1.length∨(40:Int)<s.2.2.length then .inr 0 else .inl ()):=by
  rw[l14_Small_l2_eq,show (decide ((1:Int)<3))=true from rfl,tft,show (decide ((1:Int)=0))=false from rfl,tff,show (decide ((1:Int)=1))=true from rfl,tft]
  rw[show IntKind.wrap .i64 ((1:Int)+1)=2 from rfl,small_l2_2]
  simp only[tfd]
  by_cases h:(40:Int)<s.2.1.length
  · rw[if_pos h,if_pos (.inl h)]
  · rw[if_neg h]
    by_cases h':(40:Int)<s.2.2.length
    · rw[if_pos h',if_pos (.inr h')]
    · rw[if_neg h',if_neg (fun k=>k.elim h h')]
theorem small_l2_0 (n f:Nat) (s:Trs):l14_Small_l2 n (f+4) (s,(0:Int),())=some (if (40:Int)<s.1.length∨(40:Int)<s.2.1.length∨(40:Int)<s.2.2.length then .inr 0 else .inl ()):=by
  rw[l14_Small_l2_eq,show (decide ((0:Int)<3))=true from rfl,tft,show (decide ((0:Int)=0))=true from rfl,tft]
  rw[show IntKind.wrap .i64 ((0:Int)+1)=1 from rfl,small_l2_1]
  simp only[tfd]
  by_cases h:(40:Int)<s.1.length
  · rw[if_pos h,if_pos (.inl h)]
  · rw[if_neg h]
    by_cases h':(40:Int)<s.2.1.length∨(40:Int)<s.2.2.length
    · rw[if_pos h',if_pos (.inr h')]
    · rw[if_neg h',if_neg (fun k=>k.elim h h')]
def Small14 (s:Trs):Prop:=s.1.length≤40∧s.2.1.length≤40∧s.2.2.length≤40
instance (s:Trs):Decidable (Small14 s):=by unfold Small14;infer_instance
theorem l14_small (n:Nat) (s:Trs):l14_Small (n+1) s=some (if Small14 s then 1 else 0):=by
  rw[l14_Small_eq,show loopFuel=(2^70-4)+4 from by decide,small_l2_0]
  by_cases h:Small14 s
  · rw[if_pos h,if_neg (by unfold Small14 at h;omega)];rfl
  · rw[if_neg h,if_pos (by unfold Small14 at h;omega)];rfl
theorem r05_same_l (n:Nat) (l:List Lab) (hL:l.length≤1000000):∀(rest pre:List Lab) (f:Nat) (ix len:Int),l=pre++rest→ix=pre.length→len=l.length→rest.length<f→r05_Same_l4 n f (l,l,len,ix,())=some (.inl ()):=by
  intro rest
  induction rest with
  | nil =>
    intro pre f ix len hl hi hn hf
    obtain ⟨f,rfl⟩:∃g,f=g+1:=⟨f-1,by simp at hf;omega⟩
    rw[r05_Same_l4_eq]
    simp only[tfd,if_neg (idxe hl hi hn)]
  | cons x rest ih =>
    intro pre f ix len hl hi hn hf
    obtain ⟨f,rfl⟩:∃g,f=g+1:=⟨f-1,by simp at hf;omega⟩
    rw[r05_Same_l4_eq]
    simp only[tfd,if_pos (idx hl hi hn),at_mid hl hi,obs,labEq,decide_true,Bool.not_true,tff,idxw hl hi (by omega)]
    exact ih (pre++[x]) f (ix+1) len (idxl hl) (idxs hi) hn (by simp at hf;omega)
structure SerL (s:Ser):Prop where
  l:s.1.length≤1000000
  r:s.2.2.1.2.2.length≤1000000
  a:s.2.2.2.1.1.length≤1000000
  b:s.2.2.2.1.2.1.length≤1000000
  d:s.2.2.2.1.2.2.length≤1000000
theorem series_check (n:Nat) (c:Conf) {s:Ser} (hw:SerW s):series_Check (n+11) c s=some (if SerOk c s then 0 else 2):=by
  rw[series_Check_eq,series_open_val n c hw]
  by_cases h:SerOk c s
  · rw[if_pos h,if_pos h];rfl
  · rw[if_neg h,if_neg h];rfl
theorem small05_l (n:Nat) (l:List Lab) (hL:l.length≤9223372036854775807):∀(rest pre:List Lab) (f:Nat) (ix len:Int),l=pre++rest→ix=pre.length→len=l.length→rest.length<f →
    l05_Small_l2 n f (l,len,ix,())=some (.inl ())∨l05_Small_l2 n f (l,len,ix,())=some (.inr 0):=by
  intro rest
  induction rest with
  | nil =>
    intro pre f ix len hl hi hn hf
    obtain ⟨f,rfl⟩:∃g,f=g+1:=⟨f-1,by simp at hf;omega⟩
    left
    rw[l05_Small_l2_eq]
    simp only[tfd,if_neg (idxe hl hi hn)]
  | cons x rest ih =>
    intro pre f ix len hl hi hn hf
    obtain ⟨f,rfl⟩:∃g,f=g+1:=⟨f-1,by simp at hf;omega⟩
    have hlen:=congrArg List.length hl
    simp at hlen
    rw[l05_Small_l2_eq]
    simp only[tfd,if_pos (idx hl hi hn),at_mid hl hi,obs]
    rw[w64 (x:=ix+1) (by omega) (by omega)]
    by_cases h1:ix=40
    · right;rw[if_pos h1]
    rw[if_neg h1]
    by_cases h2:(1000:Int)<x.1.length
    · right;rw[if_pos h2]
    rw[if_neg h2]
    by_cases h3:(1000:Int)<x.2.length
    · right;rw[if_pos h3]
    rw[if_neg h3]
    exact ih (pre++[x]) f (ix+1) len (idxl hl) (idxs hi) hn (by simp at hf;omega)
theorem l05_small (n:Nat) (l:List Lab) (hL:l.length≤9223372036854775807):l05_Small (n+1) l=some 0∨l05_Small (n+1) l=some 1:=by
  rw[l05_Small_eq]
  rcases small05_l n l hL l [] loopFuel 0 _ rfl rfl rfl (by unfold loopFuel;omega) with h | h
  · right;rw[h];rfl
  · left;rw[h];rfl
theorem l15_small (n:Nat) (s:Ser) (hL:s.1.length≤9223372036854775807):l15_Small (n+2) s=some 0∨l15_Small (n+2) s=some 1:=by
  rw[l15_Small_eq]
  rcases l05_small n s.1 hL with h | h
  · left;rw[h];rfl
  · rw[h]
    simp only[obs,tfd,if_neg (show ¬((1:Int)=0) by omega)]
    by_cases h1:(60:Int)<s.2.2.1.2.2.length
    · left;rw[if_pos h1]
    rw[if_neg h1,l14_small]
    simp only[obs]
    split
    · right;rfl
    · left;rfl
theorem ser_wf {s:Ser} (h:Wf tySeries s):SerW s:=by
  obtain ⟨h1,h2,h3,h4,h5⟩:=h
  refine ⟨h2,?_,trs_wf h4,slo_wf h5⟩
  intro e he
  exact ev_wf (h3.2.2.2 e he)
theorem eq_sl_Equal_Label_l (n:Nat) (a b:List Lab) (hL:a.length≤9223372036854775807):∀(ra rb pa pb:List Lab) (f:Nat) (ix len:Int),a=pa++ra→b=pb++rb→pa.length=pb.length→ra.length=rb.length→ix=pa.length→len=a.length→ra.length<f →
    sl_Equal_Label_l4 n f (a,b,len,ix,())=some (if ra=rb then .inl () else .inr false):=by
  intro ra
  induction ra with
  | nil =>
    intro rb pa pb f ix len ha hb hp hr hi hn hf
    obtain ⟨f,rfl⟩:∃g,f=g+1:=⟨f-1,by simp at hf;omega⟩
    have e:rb=[]:=List.length_eq_zero_iff.1 (by simpa using hr.symm)
    subst e
    rw[sl_Equal_Label_l4_eq,decide_eq_false (idxe ha hi hn),tff,if_pos rfl]
  | cons x ra ih =>
    intro rb pa pb f ix len ha hb hp hr hi hn hf
    obtain ⟨f,rfl⟩:∃g,f=g+1:=⟨f-1,by simp at hf;omega⟩
    cases rb with
    | nil=>simp at hr
    | cons y rb =>
      have hlen:=congrArg List.length ha
      simp at hlen
      rw[sl_Equal_Label_l4_eq,decide_eq_true (idx ha hi hn),tft,at_mid ha hi,at_mid hb (by omega)]
      simp only[obs,labEq]
      rw[w64 (x:=ix+1) (by omega) (by omega)]
      by_cases h:x=y
      · subst h
        simp only[decide_true,Bool.not_true,tff]
        rw[ih rb (pa++[x]) (pb++[x]) f (ix+1) len (idxl ha) (idxl hb) (by simp;omega) (by simpa using hr) (idxs hi) hn (by simp at hf;omega)]
        simp
      · rw[if_neg (by simp[h])]
        simp only[decide_eq_false h,Bool.not_false,tft]
theorem eq_sl_Equal_Label (n:Nat) (a b:List Lab) (hL:a.length≤9223372036854775807):sl_Equal_Label (n+1) a b=some (decide (a=b)):=by
  rw[sl_Equal_Label_eq]
  by_cases h:a.length=b.length
  · rw[decide_eq_true (show ((a.length:Nat):Int)=(b.length:Nat) by omega)]
    simp only[Bool.not_true,tff]
    rw[eq_sl_Equal_Label_l n a b hL a b [] [] loopFuel 0 _ rfl rfl rfl h rfl rfl (by unfold loopFuel;omega)]
    by_cases h':a=b
    · rw[if_pos h',decide_eq_true h'];rfl
    · rw[if_neg h',decide_eq_false h'];rfl
  · rw[decide_eq_false (show ¬((a.length:Nat):Int)=(b.length:Nat) by omega),decide_eq_false (fun k:a=b=>h (by rw[k]))]
    rfl
theorem eq_sl_Equal_Event_l (n:Nat) (a b:List Ev) (hL:a.length≤9223372036854775807):∀(ra rb pa pb:List Ev) (f:Nat) (ix len:Int),a=pa++ra→b=pb++rb→pa.length=pb.length→ra.length=rb.length→ix=pa.length→len=a.length→ra.length<f →
    sl_Equal_Event_l4 n f (a,b,len,ix,())=some (if ra=rb then .inl () else .inr false):=by
  intro ra
  induction ra with
  | nil =>
    intro rb pa pb f ix len ha hb hp hr hi hn hf
    obtain ⟨f,rfl⟩:∃g,f=g+1:=⟨f-1,by simp at hf;omega⟩
    have e:rb=[]:=List.length_eq_zero_iff.1 (by simpa using hr.symm)
    subst e
    rw[sl_Equal_Event_l4_eq,decide_eq_false (idxe ha hi hn),tff,if_pos rfl]
  | cons x ra ih =>
    intro rb pa pb f ix len ha hb hp hr hi hn hf
    obtain ⟨f,rfl⟩:∃g,f=g+1:=⟨f-1,by simp at hf;omega⟩
    cases rb with
    | nil=>simp at hr
    | cons y rb =>
      have hlen:=congrArg List.length ha
      simp at hlen
      rw[sl_Equal_Event_l4_eq,decide_eq_true (idx ha hi hn),tft,at_mid ha hi,at_mid hb (by omega)]
      simp only[obs,evEq]
      rw[w64 (x:=ix+1) (by omega) (by omega)]
      by_cases h:x=y
      · subst h
        simp only[decide_true,Bool.not_true,tff]
        rw[ih rb (pa++[x]) (pb++[x]) f (ix+1) len (idxl ha) (idxl hb) (by simp;omega) (by simpa using hr) (idxs hi) hn (by simp at hf;omega)]
        simp
      · rw[if_neg (by simp[h])]
        simp only[decide_eq_false h,Bool.not_false,tft]
theorem eq_sl_Equal_Event (n:Nat) (a b:List Ev) (hL:a.length≤9223372036854775807):sl_Equal_Event (n+1) a b=some (decide (a=b)):=by
  rw[sl_Equal_Event_eq]
  by_cases h:a.length=b.length
  · rw[decide_eq_true (show ((a.length:Nat):Int)=(b.length:Nat) by omega)]
    simp only[Bool.not_true,tff]
    rw[eq_sl_Equal_Event_l n a b hL a b [] [] loopFuel 0 _ rfl rfl rfl h rfl rfl (by unfold loopFuel;omega)]
    by_cases h':a=b
    · rw[if_pos h',decide_eq_true h'];rfl
    · rw[if_neg h',decide_eq_false h'];rfl
  · rw[decide_eq_false (show ¬((a.length:Nat):Int)=(b.length:Nat) by omega),decide_eq_false (fun k:a=b=>h (by rw[k]))]
    rfl
theorem eq_sl_Equal_Slot_l (n:Nat) (a b:List Slo) (hL:a.length≤9223372036854775807):∀(ra rb pa pb:List Slo) (f:Nat) (ix len:Int),a=pa++ra→b=pb++rb→pa.length=pb.length→ra.length=rb.length→ix=pa.length→len=a.length→ra.length<f →
    sl_Equal_Slot_l4 n f (a,b,len,ix,())=some (if ra=rb then .inl () else .inr false):=by
  intro ra
  induction ra with
  | nil =>
    intro rb pa pb f ix len ha hb hp hr hi hn hf
    obtain ⟨f,rfl⟩:∃g,f=g+1:=⟨f-1,by simp at hf;omega⟩
    have e:rb=[]:=List.length_eq_zero_iff.1 (by simpa using hr.symm)
    subst e
    rw[sl_Equal_Slot_l4_eq,decide_eq_false (idxe ha hi hn),tff,if_pos rfl]
  | cons x ra ih =>
    intro rb pa pb f ix len ha hb hp hr hi hn hf
    obtain ⟨f,rfl⟩:∃g,f=g+1:=⟨f-1,by simp at hf;omega⟩
    cases rb with
    | nil=>simp at hr
    | cons y rb =>
      have hlen:=congrArg List.length ha
      simp at hlen
      rw[sl_Equal_Slot_l4_eq,decide_eq_true (idx ha hi hn),tft,at_mid ha hi,at_mid hb (by omega)]
      simp only[obs,sloEq]
      rw[w64 (x:=ix+1) (by omega) (by omega)]
      by_cases h:x=y
      · subst h
        simp only[decide_true,Bool.not_true,tff]
        rw[ih rb (pa++[x]) (pb++[x]) f (ix+1) len (idxl ha) (idxl hb) (by simp;omega) (by simpa using hr) (idxs hi) hn (by simp at hf;omega)]
        simp
      · rw[if_neg (by simp[h])]
        simp only[decide_eq_false h,Bool.not_false,tft]
theorem eq_sl_Equal_Slot (n:Nat) (a b:List Slo) (hL:a.length≤9223372036854775807):sl_Equal_Slot (n+1) a b=some (decide (a=b)):=by
  rw[sl_Equal_Slot_eq]
  by_cases h:a.length=b.length
  · rw[decide_eq_true (show ((a.length:Nat):Int)=(b.length:Nat) by omega)]
    simp only[Bool.not_true,tff]
    rw[eq_sl_Equal_Slot_l n a b hL a b [] [] loopFuel 0 _ rfl rfl rfl h rfl rfl (by unfold loopFuel;omega)]
    by_cases h':a=b
    · rw[if_pos h',decide_eq_true h'];rfl
    · rw[if_neg h',decide_eq_false h'];rfl
  · rw[decide_eq_false (show ¬((a.length:Nat):Int)=(b.length:Nat) by omega),decide_eq_false (fun k:a=b=>h (by rw[k]))]
    rfl
theorem eq_r05_Same_l (n:Nat) (a b:List Lab) (hL:a.length≤9223372036854775807):∀(ra rb pa pb:List Lab) (f:Nat) (ix len:Int),a=pa++ra→b=pb++rb→pa.length=pb.length→ra.length=rb.length→ix=pa.length→len=a.length→ra.length<f →
    r05_Same_l4 n f (a,b,len,ix,())=some (if ra=rb then .inl () else .inr false):=by
  intro ra
  induction ra with
  | nil =>
    intro rb pa pb f ix len ha hb hp hr hi hn hf
    obtain ⟨f,rfl⟩:∃g,f=g+1:=⟨f-1,by simp at hf;omega⟩
    have e:rb=[]:=List.length_eq_zero_iff.1 (by simpa using hr.symm)
    subst e
    rw[r05_Same_l4_eq,decide_eq_false (idxe ha hi hn),tff,if_pos rfl]
  | cons x ra ih =>
    intro rb pa pb f ix len ha hb hp hr hi hn hf
    obtain ⟨f,rfl⟩:∃g,f=g+1:=⟨f-1,by simp at hf;omega⟩
    cases rb with
    | nil=>simp at hr
    | cons y rb =>
      have hlen:=congrArg List.length ha
      simp at hlen
      rw[r05_Same_l4_eq,decide_eq_true (idx ha hi hn),tft,at_mid ha hi,at_mid hb (by omega)]
      simp only[obs,labEq]
      rw[w64 (x:=ix+1) (by omega) (by omega)]
      by_cases h:x=y
      · subst h
        simp only[decide_true,Bool.not_true,tff]
        rw[ih rb (pa++[x]) (pb++[x]) f (ix+1) len (idxl ha) (idxl hb) (by simp;omega) (by simpa using hr) (idxs hi) hn (by simp at hf;omega)]
        simp
      · rw[if_neg (by simp[h])]
        simp only[decide_eq_false h,Bool.not_false,tft]
theorem eq_r05_Same (n:Nat) (a b:List Lab) (hL:a.length≤9223372036854775807):r05_Same (n+1) a b=some (decide (a=b)):=by
  rw[r05_Same_eq]
  by_cases h:a.length=b.length
  · rw[decide_eq_true (show ((a.length:Nat):Int)=(b.length:Nat) by omega)]
    simp only[Bool.not_true,tff]
    rw[eq_r05_Same_l n a b hL a b [] [] loopFuel 0 _ rfl rfl rfl h rfl rfl (by unfold loopFuel;omega)]
    by_cases h':a=b
    · rw[if_pos h',decide_eq_true h'];rfl
    · rw[if_neg h',decide_eq_false h'];rfl
  · rw[decide_eq_false (show ¬((a.length:Nat):Int)=(b.length:Nat) by omega),decide_eq_false (fun k:a=b=>h (by rw[k]))]
    rfl
theorem eq_r12_SameList_l (n:Nat) (a b:List Ev) (hL:a.length≤9223372036854775807):∀(ra rb pa pb:List Ev) (f:Nat) (ix len:Int),a=pa++ra→b=pb++rb→pa.length=pb.length→ra.length=rb.length→ix=pa.length→len=a.length→ra.length<f →
    r12_SameList_l4 n f (a,b,len,ix,())=some (if ra=rb then .inl () else .inr false):=by
  intro ra
  induction ra with
  | nil =>
    intro rb pa pb f ix len ha hb hp hr hi hn hf
    obtain ⟨f,rfl⟩:∃g,f=g+1:=⟨f-1,by simp at hf;omega⟩
    have e:rb=[]:=List.length_eq_zero_iff.1 (by simpa using hr.symm)
    subst e
    rw[r12_SameList_l4_eq,decide_eq_false (idxe ha hi hn),tff,if_pos rfl]
  | cons x ra ih =>
    intro rb pa pb f ix len ha hb hp hr hi hn hf
    obtain ⟨f,rfl⟩:∃g,f=g+1:=⟨f-1,by simp at hf;omega⟩
    cases rb with
    | nil=>simp at hr
    | cons y rb =>
      have hlen:=congrArg List.length ha
      simp at hlen
      rw[r12_SameList_l4_eq,decide_eq_true (idx ha hi hn),tft,at_mid ha hi,at_mid hb (by omega)]
      simp only[obs,evEq]
      rw[w64 (x:=ix+1) (by omega) (by omega)]
      by_cases h:x=y
      · subst h
        simp only[decide_true,Bool.not_true,tff]
        rw[ih rb (pa++[x]) (pb++[x]) f (ix+1) len (idxl ha) (idxl hb) (by simp;omega) (by simpa using hr) (idxs hi) hn (by simp at hf;omega)]
        simp
      · rw[if_neg (by simp[h])]
        simp only[decide_eq_false h,Bool.not_false,tft]
theorem eq_r12_SameList (n:Nat) (a b:List Ev) (hL:a.length≤9223372036854775807):r12_SameList (n+1) a b=some (decide (a=b)):=by
  rw[r12_SameList_eq]
  by_cases h:a.length=b.length
  · rw[decide_eq_true (show ((a.length:Nat):Int)=(b.length:Nat) by omega)]
    simp only[Bool.not_true,tff]
    rw[eq_r12_SameList_l n a b hL a b [] [] loopFuel 0 _ rfl rfl rfl h rfl rfl (by unfold loopFuel;omega)]
    by_cases h':a=b
    · rw[if_pos h',decide_eq_true h'];rfl
    · rw[if_neg h',decide_eq_false h'];rfl
  · rw[decide_eq_false (show ¬((a.length:Nat):Int)=(b.length:Nat) by omega),decide_eq_false (fun k:a=b=>h (by rw[k]))]
    rfl
theorem eq_r13_Same_l (n:Nat) (a b:List Slo) (hL:a.length≤9223372036854775807):∀(ra rb pa pb:List Slo) (f:Nat) (ix len:Int),a=pa++ra→b=pb++rb→pa.length=pb.length→ra.length=rb.length→ix=pa.length→len=a.length→ra.length<f →
    r13_Same_l4 n f (a,b,len,ix,())=some (if ra=rb then .inl () else .inr false):=by
  intro ra
  induction ra with
  | nil =>
    intro rb pa pb f ix len ha hb hp hr hi hn hf
    obtain ⟨f,rfl⟩:∃g,f=g+1:=⟨f-1,by simp at hf;omega⟩
    have e:rb=[]:=List.length_eq_zero_iff.1 (by simpa using hr.symm)
    subst e
    rw[r13_Same_l4_eq,decide_eq_false (idxe ha hi hn),tff,if_pos rfl]
  | cons x ra ih =>
    intro rb pa pb f ix len ha hb hp hr hi hn hf
    obtain ⟨f,rfl⟩:∃g,f=g+1:=⟨f-1,by simp at hf;omega⟩
    cases rb with
    | nil=>simp at hr
    | cons y rb =>
      have hlen:=congrArg List.length ha
      simp at hlen
      rw[r13_Same_l4_eq,decide_eq_true (idx ha hi hn),tft,at_mid ha hi,at_mid hb (by omega)]
      simp only[obs,sloEq]
      rw[w64 (x:=ix+1) (by omega) (by omega)]
      by_cases h:x=y
      · subst h
        simp only[decide_true,Bool.not_true,tff]
        rw[ih rb (pa++[x]) (pb++[x]) f (ix+1) len (idxl ha) (idxl hb) (by simp;omega) (by simpa using hr) (idxs hi) hn (by simp at hf;omega)]
        simp
      · rw[if_neg (by simp[h])]
        simp only[decide_eq_false h,Bool.not_false,tft]
theorem eq_r13_Same (n:Nat) (a b:List Slo) (hL:a.length≤9223372036854775807):r13_Same (n+1) a b=some (decide (a=b)):=by
  rw[r13_Same_eq]
  by_cases h:a.length=b.length
  · rw[decide_eq_true (show ((a.length:Nat):Int)=(b.length:Nat) by omega)]
    simp only[Bool.not_true,tff]
    rw[eq_r13_Same_l n a b hL a b [] [] loopFuel 0 _ rfl rfl rfl h rfl rfl (by unfold loopFuel;omega)]
    by_cases h':a=b
    · rw[if_pos h',decide_eq_true h'];rfl
    · rw[if_neg h',decide_eq_false h'];rfl
  · rw[decide_eq_false (show ¬((a.length:Nat):Int)=(b.length:Nat) by omega),decide_eq_false (fun k:a=b=>h (by rw[k]))]
    rfl
noncomputable instance decSer (a b:Ser):Decidable (a=b):=Classical.propDecidable _
structure SerM (s:Ser):Prop where
  l:s.1.length≤9223372036854775807
  r:s.2.2.1.2.2.length≤9223372036854775807
  a:s.2.2.2.1.1.length≤9223372036854775807
  b:s.2.2.2.1.2.1.length≤9223372036854775807
  d:s.2.2.2.1.2.2.length≤9223372036854775807
theorem series_same (n:Nat) (a b:Ser) (h:SerM a):series_Same (n+3) a b=some (decide (a=b)):=by
  rw[series_Same_eq,label_Same_eq,raw_Same_eq,eq_sl_Equal_Label n _ _ h.l,eq_sl_Equal_Event n _ _ h.r,eq_sl_Equal_Slot (n+1) _ _ h.a,eq_sl_Equal_Slot (n+1) _ _ h.b,eq_sl_Equal_Slot (n+1) _ _ h.d]
  obtain ⟨a1,a2,⟨r1,r2,r3⟩,⟨t1,t2,t3⟩,a5⟩:=a
  obtain ⟨b1,b2,⟨q1,q2,q3⟩,⟨u1,u2,u3⟩,b5⟩:=b
  simp only[obs,sloEq,tfd]
  by_cases h1:a1=b1
  case neg=>simp[h1]
  by_cases h2:a2=b2
  case neg=>simp[h1,h2]
  by_cases h3:r1=q1
  case neg=>simp[h1,h2,h3]
  by_cases h4:r2=q2
  case neg=>simp[h1,h2,h3,h4]
  by_cases h5:r3=q3
  case neg=>simp[h1,h2,h3,h4,h5]
  by_cases h6:t1=u1
  case neg=>simp[h1,h2,h3,h4,h5,h6]
  by_cases h7:t2=u2
  case neg=>simp[h1,h2,h3,h4,h5,h6,h7]
  by_cases h8:t3=u3
  case neg=>simp[h1,h2,h3,h4,h5,h6,h7,h8]
  by_cases h9:a5=b5
  case neg=>simp[h1,h2,h3,h4,h5,h6,h7,h8,h9]
  simp[h1,h2,h3,h4,h5,h6,h7,h8,h9]
theorem r15_same (n:Nat) (a b:Ser) (h:SerM a):r15_Same (n+3) a b=some (decide (a=b)):=by
  rw[r15_Same_eq,r12_Same_eq,r14_Same_eq,eq_r05_Same (n+1) _ _ h.l,eq_r12_SameList n _ _ h.r,eq_r13_Same n _ _ h.a,eq_r13_Same n _ _ h.b,eq_r13_Same n _ _ h.d]
  obtain ⟨a1,a2,⟨r1,r2,r3⟩,⟨t1,t2,t3⟩,a5⟩:=a
  obtain ⟨b1,b2,⟨q1,q2,q3⟩,⟨u1,u2,u3⟩,b5⟩:=b
  simp only[obs,sloEq,tfd,tfn]
  by_cases h1:a1=b1
  case neg=>simp[h1]
  by_cases h2:a2=b2
  case neg=>simp[h1,h2]
  by_cases h3:r1=q1
  case neg=>simp[h1,h2,h3]
  by_cases h4:r2=q2
  case neg=>simp[h1,h2,h3,h4]
  by_cases h5:r3=q3
  case neg=>simp[h1,h2,h3,h4,h5]
  by_cases h6:t1=u1
  case neg=>simp[h1,h2,h3,h4,h5,h6]
  by_cases h7:t2=u2
  case neg=>simp[h1,h2,h3,h4,h5,h6,h7]
  by_cases h8:t3=u3
  case neg=>simp[h1,h2,h3,h4,h5,h6,h7,h8]
  by_cases h9:a5=b5
  case neg=>simp[h1,h2,h3,h4,h5,h6,h7,h8,h9]
  simp[h1,h2,h3,h4,h5,h6,h7,h8,h9]
def oldV (now w m:Int):Int×Int:=if OfP now w∧1≤m∧m≤4096 then (if 0<now / w+1-m then now / w+1-m else 0,0) else (0,1)
theorem wi_oldest (n:Nat) (now w m:Int):wi_Oldest (n+4) now w m=some (oldV now w m):=by
  rw[wi_Oldest_eq,wi_of n now w,wi_in_int_eq]
  unfold oldV
  by_cases h:OfP now w
  case neg=>rw[if_neg h,if_neg (fun k=>h k.1)];rfl
  rw[if_pos h]
  have hq:=quo_range h
  simp only[obs,decide_true,Bool.not_true,tff]
  by_cases h1:1≤m
  case neg=>simp[h,h1]
  by_cases h2:m≤4096
  case neg=>simp[h,h1,h2]
  rw[w64 (x:=now / w+1) (by omega) (by omega),w64 (x:=now / w+1-m) (by omega) (by omega)]
  simp[h,h1,h2]
theorem r09_oldest (n:Nat) (now w m:Int):r09_Oldest (n+3) now w m=some (oldV now w m):=by
  rw[r09_Oldest_eq,r09_of n now w]
  unfold oldV
  by_cases h:OfP now w
  case neg=>rw[if_neg h,if_neg (fun k=>h k.1)];rfl
  rw[if_pos h]
  have hq:=quo_range h
  simp only[obs,decide_true,Bool.not_true,tff,tfd]
  by_cases h1:m<1
  · rw[if_pos h1,if_neg (by omega)]
  rw[if_neg h1]
  by_cases h2:4096<m
  · rw[if_pos h2,if_neg (by omega)]
  rw[if_neg h2,w64 (x:=now / w-m) (by omega) (by omega),w64 (x:=now / w-m+1) (by omega) (by omega),if_pos (show OfP now w∧1≤m∧m≤4096 from ⟨h,by omega,by omega⟩)]
  have e:(if now / w-m+1<0 then (0:Int) else now / w-m+1)=if 0<now / w+1-m then now / w+1-m else 0:=by
    split<;>split<;>omega
  rw[e]
noncomputable def goneV (t now w m:Int):Bool:=decide (OfP t w∧(oldV now w m).2=0∧t / w<(oldV now w m).1)
theorem wi_gone (n:Nat) (t now w m:Int):wi_Gone (n+5) t now w m=some (goneV t now w m):=by
  rw[wi_Gone_eq,wi_of (n+1) t w,wi_oldest n now w m]
  unfold goneV
  simp only[obs,tfd]
  by_cases h:OfP t w
  case neg=>rw[if_neg h,if_neg (by simp),decide_eq_false (fun k=>h k.1)]
  rw[if_pos h,if_pos rfl]
  by_cases h1:(oldV now w m).2=0
  · rw[if_pos h1];exact congrArg some (decide_eq_decide.2 ⟨fun k=>⟨h,h1,k⟩,fun k=>k.2.2⟩)
  · rw[if_neg h1,decide_eq_false (fun k=>h1 k.2.1)]
theorem r09_gone (n:Nat) (t now w m:Int):r09_Gone (n+4) t now w m=some (goneV t now w m):=by
  rw[r09_Gone_eq,r09_of (n+1) t w,r09_oldest n now w m]
  unfold goneV
  simp only[obs,tfd]
  by_cases h:OfP t w
  case neg=>rw[if_neg h,if_neg (by simp),decide_eq_false (fun k=>h k.1)]
  rw[if_pos h,if_pos rfl]
  by_cases h1:(oldV now w m).2=0
  · rw[if_pos h1];exact congrArg some (decide_eq_decide.2 ⟨fun k=>⟨h,h1,k⟩,fun k=>k.2.2⟩)
  · rw[if_neg h1,decide_eq_false (fun k=>h1 k.2.1)]
noncomputable def deadV (c:Conf) (last now:Int):Bool :=
  decide (OkC c)&&(goneV last now c.2.1.1 c.2.2.1.1&&(goneV last now c.2.1.2.1 c.2.2.1.2.1&&goneV last now c.2.1.2.2 c.2.2.1.2.2))
theorem series_dead (n:Nat) (c:Conf) (last now:Int):series_Dead (n+6) c last now=some (deadV c last now):=by
  rw[series_Dead_eq,conf_check (n+2) c,wi_gone n,wi_gone n,wi_gone n]
  unfold deadV
  by_cases h:OkC c
  case neg=>rw[if_neg h,decide_eq_false h];rfl
  rw[if_pos h,decide_eq_true h]
  simp only[obs,decide_true,tft,Bool.true_and]
  cases goneV last now c.2.1.1 c.2.2.1.1<;>cases goneV last now c.2.1.2.1 c.2.2.1.2.1<;>cases goneV last now c.2.1.2.2 c.2.2.1.2.2<;>rfl
theorem r15_dead (n:Nat) (c:Conf) (last now:Int):r15_Dead (n+5) c last now=some (deadV c last now):=by
  rw[r15_Dead_eq,r10_check (n+1) c,r09_gone n,r09_gone n,r09_gone n]
  unfold deadV
  by_cases h:OkC c
  case neg=>rw[if_neg h,decide_eq_false h];rfl
  rw[if_pos h,decide_eq_true h]
  simp only[obs,decide_true,Bool.not_true,tff,Bool.true_and]
  cases goneV last now c.2.1.1 c.2.2.1.1<;>cases goneV last now c.2.1.2.1 c.2.2.1.2.1<;>cases goneV last now c.2.1.2.2 c.2.2.1.2.2<;>rfl
abbrev Sta:=Conf×(Int×(Int×List Ser))
structure StaW (s:Sta):Prop where
  len:s.2.2.2.length≤9223372036854775807
  ser:∀x∈s.2.2.2,SerW x∧SerM x
def Whole (s:Sta):Prop:=OkC s.1∧(s.2.2.2.length:Int)=s.1.2.2.2.1
noncomputable instance (s):Decidable (Whole s):=Classical.propDecidable _
def LvX (s:Sta) (x:Ser):Prop:=x≠ser0∧(s.2.2.1 = -1∨deadV s.1 x.2.1 s.2.2.1=false)
noncomputable instance (s x):Decidable (LvX s x):=Classical.propDecidable _
def TimeP (t:Int):Prop:=0≤t∧t<35184372088832
instance (t):Decidable (TimeP t):=by unfold TimeP;infer_instance
def Clock (s:Sta):Prop:=TimeP s.2.1∧(s.2.2.1 = -1∨TimeP s.2.2.1)∧s.2.2.1≤s.2.1
instance (s):Decidable (Clock s):=by unfold Clock;infer_instance
def mk (s:Sta):Int:=s.2.1 / s.1.2.1.1*s.1.2.1.1
def Twin (s:Sta) (i:Nat) (x:Ser):Prop:=LvX s x∧∃k,k<i∧∃y,s.2.2.2[k]? = some y∧LvX s y∧y.1=x.1
noncomputable instance (s i x):Decidable (Twin s i x):=Classical.propDecidable _
def RightX (s:Sta) (i:Nat) (x:Ser):Prop:=x=ser0∨(SerOk s.1 x∧0≤x.2.1∧x.2.1<mk s+s.1.2.1.1∧¬Twin s i x)
noncomputable instance (s i x):Decidable (RightX s i x):=Classical.propDecidable _
structure StaOk (s:Sta):Prop where
  whole:Whole s
  clock:Clock s
  right:∀(i:Nat) x,s.2.2.2[i]? = some x→RightX s i x
noncomputable instance (s):Decidable (StaOk s):=Classical.propDecidable _
theorem Whole.len {s:Sta} (h:Whole s):s.2.2.2.length≤65536:=by
  have:=h.1.rng.cap;have:=h.2;omega
theorem at_el {α:Type} {l:List α} {i:Nat} {x:α} (h:l[i]? = some x):at? l (i:Int)=some x:=by
  unfold at?
  rw[decide_eq_true (show (0:Int)≤(i:Int) by omega),Int.toNat_natCast]
  exact h
theorem StaW.at {s:Sta} (h:StaW s) {i:Nat} {x:Ser} (hx:s.2.2.2[i]? = some x):SerW x∧SerM x:=h.ser x (List.mem_of_getElem? hx)
theorem st_empty (n:Nat) {x:Ser} (h:SerM x):stt_empty (n+4) x=some (decide (x=ser0)):=by
  have:=series_same n x ser0 h
  rw[stt_empty_eq]
  have e:series_Same (n+3) x ([],((0:Int),(((0:Int),((0:Int),[])),(([],([],[])),((0:Int),z0)))))=some (decide (x=ser0)):=this
  change obind (series_Same (n+3) x ([],((0:Int),(((0:Int),((0:Int),[])),(([],([],[])),((0:Int),z0)))))) _=_
  rw[e];rfl
theorem r17_empty (n:Nat) {x:Ser} (h:SerM x):r17_Empty (n+4) x=some (decide (x=ser0)):=by
  have:=r15_same n x ser0 h
  rw[r17_Empty_eq]
  have e:r15_Same (n+3) x ([],((0:Int),(((0:Int),((0:Int),[])),(([],([],[])),((0:Int),z0)))))=some (decide (x=ser0)):=this
  change obind (r15_Same (n+3) x ([],((0:Int),(((0:Int),((0:Int),[])),(([],([],[])),((0:Int),z0)))))) _=_
  rw[e];rfl
theorem st_lives (n:Nat) {s:Sta} {i:Nat} {x:Ser} (hx:s.2.2.2[i]? = some x) (hm:SerM x):stt_view_lives (n+7) s (i:Int)=some (decide (LvX s x)):=by
  rw[stt_view_lives_eq,at_el hx,obs,st_empty (n+2) hm,obs,tfn,tfd,series_dead n]
  by_cases h:x=ser0
  · rw[if_pos h,decide_eq_false (fun k:LvX s x=>k.1 h)]
  rw[if_neg h,tfd]
  by_cases h1:s.2.2.1 = -1
  · rw[if_pos h1,decide_eq_true (show LvX s x from ⟨h,.inl h1⟩)]
  · rw[if_neg h1]
    cases hd:deadV s.1 x.2.1 s.2.2.1
    · rw[decide_eq_true (show LvX s x from ⟨h,.inr hd⟩)];rfl
    · rw[decide_eq_false (fun k:LvX s x=>by rcases k.2 with k | k;exact h1 k;rw[hd] at k;cases k)];rfl
theorem r17_lives_val (n:Nat) {s:Sta} {i:Nat} {x:Ser} (hx:s.2.2.2[i]? = some x) (hm:SerM x):r17_lives (n+6) s (i:Int)=some (decide (LvX s x)):=by
  rw[r17_lives_eq,at_el hx,obs,r17_empty (n+1) hm,obs,tfn,tfd,obs,r15_dead n]
  by_cases h:x=ser0
  · rw[if_pos h,decide_eq_false (fun k:LvX s x=>k.1 h)]
  rw[if_neg h,tfd]
  by_cases h1:s.2.2.1 = -1
  · rw[if_pos h1,decide_eq_true (show LvX s x from ⟨h,.inl h1⟩)]
  · rw[if_neg h1]
    cases hd:deadV s.1 x.2.1 s.2.2.1
    · rw[decide_eq_true (show LvX s x from ⟨h,.inr hd⟩)];rfl
    · rw[decide_eq_false (fun k:LvX s x=>by rcases k.2 with k | k;exact h1 k;rw[hd] at k;cases k)];rfl
theorem place_l (n:Nat) (is:(Int×Unit)→Option Bool) (p:Nat→Bool) (L:Nat) (hL:L≤1000000) (his:∀k:Nat,k<L→is ((k:Int),())=some (p k)):∀(d k f:Nat),k+d=L→d<f →
    (∃m:Nat,k≤m∧m<L∧p m=true∧(∀j,k≤j→j<m→p j=false)∧stt_view_place_l2 n f (is,(L:Int),(k:Int),())=some (.inr (m:Int))) ∨
    ((∀j,k≤j→j<L→p j=false)∧stt_view_place_l2 n f (is,(L:Int),(k:Int),())=some (.inl ())):=by
  intro d
  induction d with
  | zero =>
    intro k f hk hf
    obtain ⟨f,rfl⟩:∃g,f=g+1:=⟨f-1,by omega⟩
    refine .inr ⟨fun j h1 h2=>by omega,?_⟩
    rw[stt_view_place_l2_eq,decide_eq_false (by omega),tff]
  | succ d ih =>
    intro k f hk hf
    obtain ⟨f,rfl⟩:∃g,f=g+1:=⟨f-1,by omega⟩
    rw[stt_view_place_l2_eq,decide_eq_true (by omega),tft,his k (by omega),obs]
    cases hp:p k
    · rw[tff,w64 (by omega) (by omega),show ((k:Int)+1)=((k+1:Nat):Int) by omega]
      rcases ih (k+1) f (by omega) (by omega) with ⟨m,h1,h2,h3,h4,h5⟩ | ⟨h1,h2⟩
      · exact .inl ⟨m,by omega,h2,h3,fun j q1 q2=>by
          rcases Nat.lt_or_ge k j with q | q
          · exact h4 j (by omega) q2
          · rw[show j=k by omega];exact hp,h5⟩
      · exact .inr ⟨fun j q1 q2=>by
          rcases Nat.lt_or_ge k j with q | q
          · exact h1 j (by omega) q2
          · rw[show j=k by omega];exact hp,h2⟩
    · rw[tft]
      exact .inl ⟨k,Nat.le_refl _,by omega,hp,fun j q1 q2=>by omega,rfl⟩
theorem first_val (n:Nat) (s:Sta) (is:(Int×Unit)→Option Bool) (p:Nat→Bool) (hL:s.2.2.2.length≤1000000) (his:∀k:Nat,k<s.2.2.2.length→is ((k:Int),())=some (p k)) :
    (∃m:Nat,m<s.2.2.2.length∧p m=true∧(∀j,j<m→p j=false)∧stt_view_place (n+1) s is=some (m:Int)) ∨
    ((∀j,j<s.2.2.2.length→p j=false)∧stt_view_place (n+1) s is=some (-1)):=by
  rw[stt_view_place_eq]
  rcases place_l n is p _ hL his s.2.2.2.length 0 loopFuel (by omega) (by unfold loopFuel;omega) with ⟨m,h1,h2,h3,h4,h5⟩ | ⟨h1,h2⟩
  · refine .inl ⟨m,h2,h3,fun j q=>h4 j (by omega) q,?_⟩
    have h5':stt_view_place_l2 n loopFuel (is,(s.2.2.2.length:Int),(0:Int),())=some (.inr (m:Int)):=h5
    rw[h5'];rfl
  · refine .inr ⟨fun j q=>h1 j (by omega) q,?_⟩
    have h2':stt_view_place_l2 n loopFuel (is,(s.2.2.2.length:Int),(0:Int),())=some (.inl ()):=h2
    rw[h2'];rfl
theorem label_same (n:Nat) (a b:List Lab) (h:a.length≤9223372036854775807):label_Same (n+2) a b=some (decide (a=b)):=by
  rw[label_Same_eq,eq_sl_Equal_Label n a b h];rfl
def IsTw (s:Sta) (i k:Nat) (x:Ser):Prop:=k=i∨∃y,s.2.2.2[k]? = some y∧LvX s y∧y.1=x.1
noncomputable instance (s i k x):Decidable (IsTw s i k x):=Classical.propDecidable _
theorem st_twin (n:Nat) {s:Sta} (hw:StaW s) (hL:s.2.2.2.length≤1000000) {i:Nat} {x:Ser} (hx:s.2.2.2[i]? = some x):stt_view_twin (n+9) s (i:Int)=some (decide (Twin s i x)):=by
  have hil:i<s.2.2.2.length:=(List.getElem?_eq_some_iff.1 hx).1
  have hm:=(hw.at hx).2
  rw[stt_view_twin_eq]
  have his:∀k:Nat,k<s.2.2.2.length→(fun y0:Int×Unit=>stt_view_twin_1 (n+8) y0.1 (i:Int) s) ((k:Int),())=some (decide (IsTw s i k x)):=by
    intro k hk
    have hy:s.2.2.2[k]? = some s.2.2.2[k]:=List.getElem?_eq_getElem hk
    generalize s.2.2.2[k]=y at hy
    have hmy:=(hw.at hy).2
    show stt_view_twin_1 (n+8) (k:Int) (i:Int) s=_
    rw[stt_view_twin_1_eq,tfd,st_lives n hy hmy,obs,at_el hy,obs,at_el hx,obs,label_same (n+5) _ _ hmy.l,obs,tfd]
    by_cases h1:k=i
    · rw[if_pos (by rw[h1]),decide_eq_true (show IsTw s i k x from .inl h1)]
    rw[if_neg (by omega)]
    by_cases h2:LvX s y
    · rw[if_pos h2]
      refine congrArg some (decide_eq_decide.2 ⟨fun h3 => .inr ⟨y,hy,h2,h3⟩,fun h3 => ?_⟩)
      rcases h3 with h3 | ⟨z,z1,z2,z3⟩
      · exact absurd h3 h1
      · rw[hy] at z1;cases z1;exact z3
    · rw[if_neg h2,decide_eq_false]
      rintro (h3 | ⟨z,z1,z2,z3⟩)
      · exact h1 h3
      · rw[hy] at z1;cases z1;exact h2 z2
  rcases first_val (n+7) s (fun y0:Int×Unit=>stt_view_twin_1 (n+8) y0.1 (i:Int) s) (fun k=>decide (IsTw s i k x)) hL his with ⟨m,h1,h2,h3,h4⟩ | ⟨h1,h2⟩
  · rw[h4,obs,tfd,st_lives (n+1) hx hm]
    have h2:=of_decide_eq_true h2
    have hmi:m≤i:=by
      rcases Nat.lt_or_ge i m with q | q
      · have:=of_decide_eq_false (h3 i q);exact absurd (.inl rfl) this
      · exact q
    by_cases q:m<i
    · rw[if_pos (by omega),obs]
      refine congrArg some (decide_eq_decide.2 ⟨fun k=>⟨k,m,q,?_⟩,fun k=>k.1⟩)
      exact h2.resolve_left (by omega)
    · rw[if_neg (by omega),decide_eq_false]
      rintro ⟨k1,k,k2,k3⟩
      exact of_decide_eq_false (h3 k (by omega)) (.inr k3)
  · exact absurd (.inl rfl) (of_decide_eq_false (h1 i hil))
theorem mk_range {s:Sta} (h:TimeP s.2.1) (hw:1≤s.1.2.1.1∧s.1.2.1.1≤1099511627776):0≤mk s∧mk s≤s.2.1∧s.2.1<mk s+s.1.2.1.1∧s.2.1-s.2.1 % s.1.2.1.1=mk s:=by
  have e:=Int.mul_ediv_add_emod s.2.1 s.1.2.1.1
  have e1:=Int.emod_nonneg s.2.1 (show s.1.2.1.1≠0 by omega)
  have e2:=Int.emod_lt_of_pos s.2.1 (show 0<s.1.2.1.1 by omega)
  rw[Int.mul_comm] at e
  have e3:0≤mk s:=Int.mul_nonneg (Int.ediv_nonneg h.1 (by omega)) (by omega)
  unfold mk at *
  exact ⟨e3,by omega,by omega,by omega⟩
theorem st_mark (n:Nat) {s:Sta} (h:TimeP s.2.1) (hw:1≤s.1.2.1.1∧s.1.2.1.1≤1099511627776):stt_view_mark (n+1) s=some (mk s):=by
  have:=mk_range h hw
  have:=h.1;have:=h.2
  rw[stt_view_mark_eq,tfd,if_neg (by omega),tmod_nn h.1,w64 (by omega) (by omega),(mk_range h hw).2.2.2]
theorem st_right (n:Nat) {s:Sta} (hw:StaW s) (hh:Whole s) (ht:TimeP s.2.1) {i:Nat} {x:Ser} (hx:s.2.2.2[i]? = some x):stt_view_right (n+12) s (i:Int)=some (decide (RightX s i x)):=by
  have hm:=hw.at hx
  have hr:=hh.1.rng
  have hL:=hh.len
  have hmk:=mk_range ht hr.w0
  have ht1:=ht.1;have ht2:=ht.2;have hw0:=hr.w0
  obtain ⟨m1,m2,m3,m4⟩:=hmk
  rw[stt_view_right_eq,at_el hx,obs,st_empty (n+7) hm.2,obs,tfd,series_check n s.1 hm.1,obs,st_mark (n+10) ht hr.w0,obs,w64 (by omega) (by omega),st_twin (n+2) hw (by omega) hx,obs]
  simp only[tfd]
  by_cases h0:x=ser0
  · rw[if_pos h0,decide_eq_true (show RightX s i x from .inl h0)]
  rw[if_neg h0]
  by_cases h1:SerOk s.1 x
  case neg=>rw[if_neg h1,if_neg (by decide),decide_eq_false (fun q:RightX s i x=>by rcases q with k | k;exact h0 k;exact h1 k.1)]
  rw[if_pos h1,if_pos rfl]
  by_cases h2:0≤x.2.1
  case neg=>rw[if_neg h2,decide_eq_false (fun q:RightX s i x=>by rcases q with k | k;exact h0 k;exact h2 k.2.1)]
  rw[if_pos h2]
  by_cases h3:x.2.1<mk s+s.1.2.1.1
  case neg=>rw[if_neg h3,decide_eq_false (fun q:RightX s i x=>by rcases q with k | k;exact h0 k;exact h3 k.2.2.1)]
  rw[if_pos h3]
  by_cases h4:Twin s i x
  · rw[decide_eq_true h4,decide_eq_false (fun q:RightX s i x=>by rcases q with k | k;exact h0 k;exact k.2.2.2 h4)];rfl
  · rw[decide_eq_false h4,decide_eq_true (show RightX s i x from .inr ⟨h1,h2,h3,h4⟩)];rfl
def sta0:Sta:=(((0:Int),(((0:Int),((0:Int),(0:Int))),(((0:Int),((0:Int),(0:Int))),((0:Int),(0:Int))))),((0:Int),((0:Int),[])))
theorem st_open (n:Nat) (s:Sta):stt_open (n+4) s=some (if Whole s then (s,0) else (sta0,2)):=by
  rw[stt_open_eq,conf_check n s.1,obs,tfn,tfd,tfn,tfd]
  by_cases h:OkC s.1
  case neg=>rw[if_neg h,if_neg (show ¬((2:Int)=0) by decide),if_neg (fun k:Whole s=>h k.1)];rfl
  rw[if_pos h,if_pos rfl]
  by_cases h1:(s.2.2.2.length:Int)=s.1.2.2.2.1
  · rw[if_pos h1,if_pos (show Whole s from ⟨h,h1⟩)]
  · rw[if_neg h1,if_neg (fun k:Whole s=>h1 k.2)];rfl
theorem st_time (n:Nat) (t:Int):stt_time (n+1) t=some (decide (TimeP t)):=by
  rw[stt_time_eq,tfd]
  by_cases h:0≤t
  · rw[if_pos h];exact congrArg some (decide_eq_decide.2 ⟨fun k=>⟨h,k⟩,fun k=>k.2⟩)
  · rw[if_neg h,decide_eq_false (fun k:TimeP t=>h k.1)]
theorem r17_time_val (n:Nat) (t:Int):r17_time (n+1) t=some (decide (TimeP t)):=by
  rw[r17_time_eq,tfd]
  by_cases h:0≤t
  · rw[if_pos h];exact congrArg some (decide_eq_decide.2 ⟨fun k=>⟨h,k⟩,fun k=>k.2⟩)
  · rw[if_neg h,decide_eq_false (fun k:TimeP t=>h k.1)]
theorem st_clock (n:Nat) (s:Sta):stt_view_clock (n+2) s=some (decide (Clock s)):=by
  rw[stt_view_clock_eq,st_time n,st_time n,obs,obs]
  simp only[tfd]
  by_cases h:TimeP s.2.1
  case neg=>rw[if_neg h,decide_eq_false (fun k:Clock s=>h k.1)]
  rw[if_pos h]
  by_cases h1:s.2.2.1 = -1
  · rw[if_pos h1];exact congrArg some (decide_eq_decide.2 ⟨fun k=>⟨h,.inl h1,k⟩,fun k=>k.2.2⟩)
  rw[if_neg h1]
  by_cases h2:TimeP s.2.2.1
  · rw[if_pos h2];exact congrArg some (decide_eq_decide.2 ⟨fun k=>⟨h,.inr h2,k⟩,fun k=>k.2.2⟩)
  · rw[if_neg h2,decide_eq_false (fun k:Clock s=>by rcases k.2.1 with q | q;exact h1 q;exact h2 q)]
def Wrong (s:Sta) (k:Nat):Prop:=∃x,s.2.2.2[k]? = some x∧¬RightX s k x
noncomputable instance (s k):Decidable (Wrong s k):=Classical.propDecidable _
theorem stt_check (n:Nat) {s:Sta} (hw:StaW s):stt_Check (n+14) s=some (if StaOk s then 0 else 2):=by
  rw[stt_Check_eq,st_open (n+9) s,obs,tfn,tfd]
  by_cases h:Whole s
  case neg=>rw[if_neg h,if_neg (show ¬((sta0,(2:Int)).2=0) by decide),if_neg (fun k:StaOk s=>h k.whole)]
  rw[if_pos h,if_pos rfl,st_clock (n+11) s,obs,tfn,tfd]
  by_cases h1:Clock s
  case neg=>rw[if_neg h1,if_neg (fun k:StaOk s=>h1 k.clock)]
  rw[if_pos h1]
  have hL:=h.len
  have his:∀k:Nat,k<s.2.2.2.length→(fun y2:Int×Unit=>stt_Check_1 (n+13) y2.1 s) ((k:Int),())=some (decide (Wrong s k)):=by
    intro k hk
    have hy:s.2.2.2[k]? = some s.2.2.2[k]:=List.getElem?_eq_getElem hk
    generalize s.2.2.2[k]=y at hy
    show stt_Check_1 (n+13) (k:Int) s=_
    rw[stt_Check_1_eq,st_right n hw h h1.1 hy,obs]
    by_cases q:RightX s k y
    · rw[decide_eq_true q,decide_eq_false (fun z:Wrong s k=>by obtain ⟨x,x1,x2⟩:=z;rw[hy] at x1;cases x1;exact x2 q)];rfl
    · rw[decide_eq_false q,decide_eq_true (show Wrong s k from ⟨y,hy,q⟩)];rfl
  rcases first_val (n+12) s (fun y2:Int×Unit=>stt_Check_1 (n+13) y2.1 s) (fun k=>decide (Wrong s k)) (by omega) his with ⟨m,q1,q2,q3,q4⟩ | ⟨q1,q2⟩
  · rw[show (fun y2:Int×Unit=>stt_Check_1 (n+13) y2.1 (s,(0:Int)).1)=fun y2:Int×Unit=>stt_Check_1 (n+13) y2.1 s from rfl]
    obtain ⟨x,x1,x2⟩:=of_decide_eq_true q2
    rw[q4,obs,tfd,if_pos (by omega),if_neg (fun k:StaOk s=>x2 (k.right m x x1))]
  · rw[show (fun y2:Int×Unit=>stt_Check_1 (n+13) y2.1 (s,(0:Int)).1)=fun y2:Int×Unit=>stt_Check_1 (n+13) y2.1 s from rfl]
    rw[q2,obs,tfd,if_neg (by decide),if_pos]
    refine ⟨h,h1,fun i x hx => ?_⟩
    have:=of_decide_eq_false (q1 i (List.getElem?_eq_some_iff.1 hx).1)
    exact Decidable.byContradiction fun k=>this ⟨x,hx,k⟩
theorem r17_whole_val (n:Nat) (s:Sta):r17_whole (n+4) s=some (decide (Whole s)):=by
  rw[r17_whole_eq,r10_check n s.1,obs,tfd]
  by_cases h:OkC s.1
  case neg=>rw[if_neg h,if_neg (show ¬((2:Int)=0) by decide),decide_eq_false (fun k:Whole s=>h k.1)]
  rw[if_pos h,if_pos rfl]
  exact congrArg some (decide_eq_decide.2 ⟨fun k=>⟨h,k⟩,fun k=>k.2⟩)
theorem r17_mark (n:Nat) {s:Sta} (hh:Whole s) (h:TimeP s.2.1):r17_Mark (n+5) s=some (mk s):=by
  have hw:=hh.1.rng.w0
  obtain ⟨m1,m2,m3,m4⟩:=mk_range h hw
  have h1:=h.1;have h2:=h.2
  rw[r17_Mark_eq,r17_whole_val n s,obs,tfn,tfd,if_pos hh,r17_time_val (n+3),obs,tfn,tfd,if_pos h,tfd,if_neg (by omega),quo_at h hw.1]
  rw[w64 (show -9223372036854775808≤s.2.1 / s.1.2.1.1*s.1.2.1.1 from by unfold mk at m1;omega) (by unfold mk at m2;omega)]
  rfl
theorem r17_l11 (n:Nat) {s:Sta} (hw:StaW s) (hL:s.2.2.2.length≤1000000) (i:Nat) (x:Ser) (hx:s.2.2.2[i]? = some x) (e:Int) (p:List Ser) (q r:Int):∀(d k f:Nat),k+d=i→d<f →
    ((∃j,k≤j∧j<i∧LvX s x∧∃y,s.2.2.2[j]? = some y∧LvX s y∧y.1=x.1)∧r17_Check_l11 (n+6) f (s,e,(i:Int),x,p,q,r,(i:Int),(k:Int),())=some (.inr 2)) ∨
    (¬(∃j,k≤j∧j<i∧LvX s x∧∃y,s.2.2.2[j]? = some y∧LvX s y∧y.1=x.1)∧r17_Check_l11 (n+6) f (s,e,(i:Int),x,p,q,r,(i:Int),(k:Int),())=some (.inl (s,e,p,q,r,()))):=by
  have hil:i<s.2.2.2.length:=(List.getElem?_eq_some_iff.1 hx).1
  have hm:=(hw.at hx).2
  intro d
  induction d with
  | zero =>
    intro k f hk hf
    obtain ⟨f,rfl⟩:∃g,f=g+1:=⟨f-1,by omega⟩
    refine .inr ⟨fun ⟨j,h1,h2,_⟩=>by omega,?_⟩
    rw[r17_Check_l11_eq,decide_eq_false (by omega),tff]
  | succ d ih =>
    intro k f hk hf
    obtain ⟨f,rfl⟩:∃g,f=g+1:=⟨f-1,by omega⟩
    have hkl:k<s.2.2.2.length:=by omega
    have hy:s.2.2.2[k]? = some s.2.2.2[k]:=List.getElem?_eq_getElem hkl
    generalize s.2.2.2[k]=y at hy
    have hmy:=(hw.at hy).2
    have ih':=ih (k+1) f (by omega) (by omega)
    have step:¬(LvX s x∧LvX s y∧y.1=x.1)→((∃j,k+1≤j∧j<i∧LvX s x∧∃y,s.2.2.2[j]? = some y∧LvX s y∧y.1=x.1)↔(∃j,k≤j∧j<i∧LvX s x∧∃y,s.2.2.2[j]? = some y∧LvX s y∧y.1=x.1)):=by
      intro hn
      constructor
      · rintro ⟨j,h1,h2⟩;exact ⟨j,by omega,h2⟩
      · rintro ⟨j,h1,h2,h3,z,h4,h5,h6⟩
        rcases Nat.lt_or_ge k j with g | g
        · exact ⟨j,by omega,h2,h3,z,h4,h5,h6⟩
        · obtain rfl:j=k:=by omega
          rw[hy] at h4;cases h4
          exact absurd ⟨h3,h5,h6⟩ hn
    rw[r17_Check_l11_eq,decide_eq_true (by omega),tft,r17_lives_val n hx hm,obs,tfd,r17_lives_val n hy hmy,obs,tfd,at_el hy,obs,eq_r05_Same (n+5) _ _ hmy.l,obs,tfd,w64 (by omega) (by omega),show ((k:Int)+1)=((k+1:Nat):Int) by omega]
    by_cases h1:LvX s x
    case neg=>rw[if_neg h1,←step (fun z=>h1 z.1)];exact ih'
    rw[if_pos h1]
    by_cases h2:LvX s y
    case neg=>rw[if_neg h2,←step (fun z=>h2 z.2.1)];exact ih'
    rw[if_pos h2]
    by_cases h3:y.1=x.1
    case neg=>rw[if_neg h3,←step (fun z=>h3 z.2.2)];exact ih'
    rw[if_pos h3]
    exact .inl ⟨⟨k,Nat.le_refl _,by omega,h1,y,hy,h2,h3⟩,rfl⟩
theorem r17_l5 (n:Nat) {s:Sta} (hw:StaW s) (hh:Whole s) (ht:TimeP s.2.1):∀(d i f:Nat),i+d=s.2.2.2.length→d<f →
    ((∀(j:Nat) x,i≤j→s.2.2.2[j]? = some x→RightX s j x)∧r17_Check_l5 (n+8) f (s,mk s+s.1.2.1.1,s.2.2.2,(s.2.2.2.length:Int),(i:Int),())=some (.inl ())) ∨
    (¬(∀(j:Nat) x,i≤j→s.2.2.2[j]? = some x→RightX s j x)∧r17_Check_l5 (n+8) f (s,mk s+s.1.2.1.1,s.2.2.2,(s.2.2.2.length:Int),(i:Int),())=some (.inr 2)):=by
  have hL:=hh.len
  intro d
  induction d with
  | zero =>
    intro i f hi hf
    obtain ⟨f,rfl⟩:∃g,f=g+1:=⟨f-1,by omega⟩
    refine .inl ⟨fun j x h1 h2 => ?_,?_⟩
    · have:=(List.getElem?_eq_some_iff.1 h2).1;omega
    · rw[r17_Check_l5_eq,decide_eq_false (by omega),tff]
  | succ d ih =>
    intro i f hi hf
    obtain ⟨f,rfl⟩:∃g,f=g+1:=⟨f-1,by omega⟩
    have hx:s.2.2.2[i]? = some (s.2.2.2[i]'(by omega)):=List.getElem?_eq_getElem (by omega)
    generalize s.2.2.2[i]'(by omega)=x at hx
    have hm:=hw.at hx
    have ih':=ih (i+1) f (by omega) (by omega)
    have step:RightX s i x→((∀(j:Nat) x,i+1≤j→s.2.2.2[j]? = some x→RightX s j x)↔(∀(j:Nat) x,i≤j→s.2.2.2[j]? = some x→RightX s j x)):=by
      intro hr
      constructor
      · intro h j y h1 h2
        rcases Nat.lt_or_ge i j with g | g
        · exact h j y (by omega) h2
        · obtain rfl:j=i:=by omega
          rw[hx] at h2;cases h2;exact hr
      · intro h j y h1 h2;exact h j y (by omega) h2
    have bad:¬RightX s i x→¬(∀(j:Nat) x,i≤j→s.2.2.2[j]? = some x→RightX s j x):=fun h k=>h (k i x (Nat.le_refl _) hx)
    rw[r17_Check_l5_eq,decide_eq_true (by omega),tft,at_el hx,obs,r17_empty (n+4) hm.2,obs,tfd,r15_check n s.1 hm.1,obs,w64 (by omega) (by omega),show ((i:Int)+1)=((i+1:Nat):Int) by omega]
    by_cases h0:x=ser0
    · rw[if_pos h0,←step (.inl h0)];exact ih'
    rw[if_neg h0,tfn,tfd]
    by_cases h1:SerOk s.1 x
    case neg=>rw[if_neg h1,if_neg (show ¬((2:Int)=0) by decide)];exact .inr ⟨bad fun k=>by rcases k with k | k;exact h0 k;exact h1 k.1,rfl⟩
    rw[if_pos h1,if_pos rfl,tfd]
    by_cases h2:x.2.1<0
    · rw[if_pos h2];exact .inr ⟨bad fun k=>by rcases k with k | k;exact h0 k;have:=k.2.1;omega,rfl⟩
    rw[if_neg h2,tfd]
    by_cases h3:mk s+s.1.2.1.1≤x.2.1
    · rw[if_pos h3];exact .inr ⟨bad fun k=>by rcases k with k | k;exact h0 k;have:=k.2.2.1;omega,rfl⟩
    rw[if_neg h3,decide_eq_true (show (0:Int)≤(i:Int) by omega),decide_eq_true (show (i:Int)≤(s.2.2.2.length:Int) by omega),Bool.and_self,tft,show (List.drop 0 (List.take (Int.toNat (i:Int)) s.2.2.2)).length=i by simp;omega]
    rcases r17_l11 (n+2) hw (by omega) i x hx (mk s+s.1.2.1.1) s.2.2.2 (s.2.2.2.length:Int) (i:Int) i 0 loopFuel (by omega) (by unfold loopFuel;omega) with ⟨q1,q2⟩ | ⟨q1,q2⟩
    · have q2':r17_Check_l11 (n+8) loopFuel (s,mk s+s.1.2.1.1,(i:Int),x,s.2.2.2,(s.2.2.2.length:Int),(i:Int),(i:Int),(0:Int),())=some (.inr 2):=q2
      rw[q2',obs,selim_inr]
      obtain ⟨j,j1,j2,j3,j4⟩:=q1
      exact .inr ⟨bad fun k=>by rcases k with k | k;exact h0 k;exact k.2.2.2 ⟨j3,j,j2,j4⟩,rfl⟩
    · have q2':r17_Check_l11 (n+8) loopFuel (s,mk s+s.1.2.1.1,(i:Int),x,s.2.2.2,(s.2.2.2.length:Int),(i:Int),(i:Int),(0:Int),())=some (.inl (s,mk s+s.1.2.1.1,s.2.2.2,(s.2.2.2.length:Int),(i:Int),())):=q2
      rw[q2',obs,selim_inl]
      have hr:RightX s i x := .inr ⟨h1,by omega,by omega,fun ⟨k1,j,k2,k3⟩=>q1 ⟨j,by omega,k2,k1,k3⟩⟩
      rw[←step hr,show IntKind.wrap .i64 ((i:Int)+1)=((i+1:Nat):Int) by rw[w64 (by omega) (by omega)];omega]
      exact ih'
theorem r17_check (n:Nat) {s:Sta} (hw:StaW s):r17_Check (n+9) s=some (if StaOk s then 0 else 2):=by
  rw[r17_Check_eq,r17_whole_val (n+4) s,obs,tfn,tfd]
  by_cases h:Whole s
  case neg=>rw[if_neg h,if_neg (fun k:StaOk s=>h k.whole)]
  rw[if_pos h,r17_time_val,obs,tfn,tfd]
  by_cases h1:TimeP s.2.1
  case neg=>rw[if_neg h1,if_neg (fun k:StaOk s=>h1 k.clock.1)]
  have tail:(Clock s)→(obind (r17_Mark (n+8) s) fun r3 =>
      obind (r17_Check_l5 (n+8) loopFuel (s,((IntKind.wrap .i64 (r3+s.1.2.1.1)),(s.2.2.2,((((List.length s.2.2.2):Nat):Int),((0:Int),())))))) fun r4 =>
      selim (fun y5=>some (0:Int)) (fun z6=>some z6) r4)=some (if StaOk s then 0 else 2):=by
    intro hcl
    have hr:=h.1.rng
    obtain ⟨m1,m2,m3,m4⟩:=mk_range h1 hr.w0
    have t2:=h1.2;have w0:=hr.w0
    rw[r17_mark (n+3) h h1,obs,w64 (by omega) (by omega)]
    rcases r17_l5 n hw h h1 s.2.2.2.length 0 loopFuel (by omega) (by have:=h.len;unfold loopFuel;omega) with ⟨q1,q2⟩ | ⟨q1,q2⟩
    · have q2':r17_Check_l5 (n+8) loopFuel (s,mk s+s.1.2.1.1,s.2.2.2,(s.2.2.2.length:Int),(0:Int),())=some (.inl ()):=q2
      rw[q2',obs,selim_inl,if_pos (show StaOk s from ⟨h,hcl,fun i x hx=>q1 i x (by omega) hx⟩)]
    · have q2':r17_Check_l5 (n+8) loopFuel (s,mk s+s.1.2.1.1,s.2.2.2,(s.2.2.2.length:Int),(0:Int),())=some (.inr 2):=q2
      rw[q2',obs,selim_inr,if_neg (fun k:StaOk s=>q1 fun j x _ hx=>k.right j x hx)]
  rw[if_pos h1,tfn,tfd]
  by_cases h2:s.2.2.1 = -1
  · rw[if_pos h2,tfd]
    by_cases h3:s.2.1<s.2.2.1
    · have:=h1.1;omega
    · rw[if_neg h3];exact tail ⟨h1,.inl h2,by omega⟩
  · rw[if_neg h2,r17_time_val,obs,tfn,tfd]
    by_cases h3:TimeP s.2.2.1
    case neg=>rw[if_neg h3,if_neg (fun k:StaOk s=>by rcases k.clock.2.1 with q | q;exact h2 q;exact h3 q)]
    rw[if_pos h3,tfd]
    by_cases h4:s.2.1<s.2.2.1
    · rw[if_pos h4,if_neg (fun k:StaOk s=>by have:=k.clock.2.2;omega)]
    · rw[if_neg h4];exact tail ⟨h1,.inr h3,by omega⟩
theorem small17_l4 (n:Nat) (l:List Ser) (hL:l.length≤1000000) (hm:∀x∈l,SerM x):∀(rest pre:List Ser) (f:Nat) (ix len:Int),l=pre++rest→ix=pre.length→len=l.length→rest.length<f →
    l17_Small_l4 (n+2) f (l,len,ix,())=some (.inl ())∨l17_Small_l4 (n+2) f (l,len,ix,())=some (.inr 0):=by
  intro rest
  induction rest with
  | nil =>
    intro pre f ix len hl hi hn hf
    obtain ⟨f,rfl⟩:∃g,f=g+1:=⟨f-1,by simp at hf;omega⟩
    left
    rw[l17_Small_l4_eq]
    simp only[tfd,if_neg (idxe hl hi hn)]
  | cons x rest ih =>
    intro pre f ix len hl hi hn hf
    obtain ⟨f,rfl⟩:∃g,f=g+1:=⟨f-1,by simp at hf;omega⟩
    have hx:SerM x:=hm x (by rw[hl];simp)
    rw[l17_Small_l4_eq]
    simp only[tfd,if_pos (idx hl hi hn),at_mid hl hi,obs,idxw hl hi (show l.length≤1000000000000 by omega)]
    rcases l15_small n x hx.l with h | h
    · rw[h];right;rfl
    · rw[h]
      simp only[obs,if_neg (show ¬((1:Int)=0) by decide)]
      exact ih (pre++[x]) f (ix+1) len (idxl hl) (idxs hi) hn (by simp at hf;omega)
theorem l17_small (n:Nat) {s:Sta} (hw:StaW s):l17_Small (n+3) s=some 0∨(l17_Small (n+3) s=some 1∧s.2.2.2.length≤8):=by
  rw[l17_Small_eq]
  simp only[tfd]
  by_cases h:(8:Int)<(s.2.2.2.length:Int)
  · rw[if_pos h];exact .inl rfl
  · rw[if_neg h]
    rcases small17_l4 n s.2.2.2 (by omega) (fun x hx=>(hw.ser x hx).2) s.2.2.2 [] loopFuel 0 _ rfl rfl rfl (by unfold loopFuel;omega) with h1 | h1
    · rw[h1];exact .inr ⟨rfl,by omega⟩
    · rw[h1];exact .inl rfl
theorem ser_m' {s:Ser} (h:Wf tySeries s):SerM s:=by
  obtain ⟨h1,h2,h3,⟨h4,h5,h6⟩,h7⟩:=h
  have e1:=h1.1;have e3:=h3.2.2.1;have e4:=h4.1;have e5:=h5.1;have e6:=h6.1
  simp only[maxLen] at e1 e3 e4 e5 e6
  exact ⟨e1,e3,e4,e5,e6⟩
theorem sta_wf {s:Sta} (h:Wf tyState s):StaW s:=by
  obtain ⟨h1,h2,h3,h4⟩:=h
  have e:=h4.1
  simp only[maxLen] at e
  exact ⟨e,fun x hx=>⟨ser_wf (h4.2 x hx),ser_m' (h4.2 x hx)⟩⟩
end Go.Proofs.YtjeabebacegikaaGreatDoor
namespace Go.Proofs.YtjeabebacegikaaGreatDoor
open Go.Flat Go.Plim
set_option linter.unusedVariables false
def OpenInv (c:Conf) (s:Trs) (o:Slo) (l:List Ev):Prop :=
  (l=[]∧o=s0∧∀t,FInv c s [] t)∨∃t,EndsAt l t∧FInv c s l t∧o=(t / c.2.1.1,cellOf (win c.2.1.1 l (t / c.2.1.1)))
theorem OpenInv.fold {c:Conf} {s:Trs} {o:Slo} {l:List Ev} (h:OpenInv c s o l):FoldOk c s:=by
  rcases h with ⟨_,_,h⟩ | ⟨t,_,h,_⟩
  · exact (h 0).ok
  · exact h.ok
end Go.Proofs.YtjeabebacegikaaGreatDoor
namespace Go.Proofs.YtjeabebacegikaaGreatDoor
open Go.Flat Go.Plim
set_option linter.unusedVariables false
set_option linter.unusedSimpArgs false
def rawOf (room:Int) (l:List Ev):Rw :=
  (if (l.length:Int)≤room then 0 else (l.length:Int)-room,(if (l.length:Int)≤room then 0 else ((l[l.length-room.toNat-1]?).getD e0).1,l.drop (l.length-room.toNat)))
structure SerInv (c:Conf) (s:Ser) (l:List Ev):Prop where
  lab:LabOk s.1
  len:l.length≤1000000
  raw:s.2.2.1=rawOf c.1 l
  opn:OpenInv c s.2.2.2.1 s.2.2.2.2 l
  last:(l=[]∧s.2.1 = -1)∨EndsAt l s.2.1
theorem SerInv.foll {c:Conf} {s:Ser} {l:List Ev} (h:SerInv c s l):Foll l:=by
  rcases h.last with ⟨rfl,_⟩ | h
  · exact Foll.nil
  · exact h.foll
theorem ends_getLast {l:List Ev} {t:Int} (h:EndsAt l t):∃e,l.getLast? = some e∧e.1=t:=by
  obtain ⟨x,hx,hxt⟩:=h.last
  rcases List.eq_nil_or_concat l with rfl | ⟨p,y,rfl⟩
  · cases hx
  rw[List.concat_eq_append] at *
  have h1:=h.le y (by simp)
  refine ⟨y,by simp,?_⟩
  rcases List.mem_append.1 hx with q | q
  · have:=(foll_append.1 h.foll).2.2 x q y (by simp);omega
  · simp at q;rw[←q];exact hxt
theorem ends_uniq {l:List Ev} {t u:Int} (h:EndsAt l t) (k:EndsAt l u):t=u:=by
  obtain ⟨e,h1,h2⟩:=ends_getLast h
  obtain ⟨e',k1,k2⟩:=ends_getLast k
  rw[h1] at k1;simp at k1;rw[←h2,←k2,k1]
theorem SerInv.at_ {c:Conf} {s:Ser} {l:List Ev} (h:SerInv c s l) (hl:l≠[]):EndsAt l s.2.1∧FInv c s.2.2.2.1 l s.2.1∧s.2.2.2.2=(s.2.1 / c.2.1.1,cellOf (win c.2.1.1 l (s.2.1 / c.2.1.1))):=by
  have he:=h.last.resolve_left fun k=>hl k.1
  rcases h.opn with k | ⟨t,k1,k2,k3⟩
  · exact absurd k.1 hl
  · have:=ends_uniq he k1
    subst this
    exact ⟨he,k2,k3⟩
noncomputable def findV (s:Sta) (l:List Lab):Option Nat:=s.2.2.2.findIdx? fun x=>decide (x.1=l∧LvX s x)
noncomputable def roomV (s:Sta):Option Nat:=s.2.2.2.findIdx? fun x=>decide (¬LvX s x)
noncomputable def lvAt (s:Sta) (i:Nat):Bool:=match s.2.2.2[i]? with | some x=>decide (LvX s x) | none=>false
noncomputable def liveV (s:Sta):List Nat:=(List.range s.2.2.2.length).filter (lvAt s)
theorem findV_some {s:Sta} {l:List Lab} {i:Nat}:findV s l=some i↔∃x,s.2.2.2[i]? = some x∧x.1=l∧LvX s x∧∀j,j<i→∀y,s.2.2.2[j]? = some y→¬(y.1=l∧LvX s y):=by
  unfold findV
  rw[List.findIdx?_eq_some_iff_getElem]
  constructor
  · rintro ⟨h,h1,h2⟩
    have h1:=of_decide_eq_true h1
    refine ⟨_,List.getElem?_eq_getElem h,h1.1,h1.2,fun j hj y hy => ?_⟩
    obtain ⟨hjl,e⟩:=List.getElem?_eq_some_iff.1 hy
    have:=h2 j hj
    rw[e] at this
    simpa using this
  · rintro ⟨x,hx,h1,h2,h3⟩
    obtain ⟨hl,e⟩:=List.getElem?_eq_some_iff.1 hx
    refine ⟨hl,by rw[e];exact decide_eq_true ⟨h1,h2⟩,fun j hj => ?_⟩
    have:=h3 j hj _ (List.getElem?_eq_getElem (by omega))
    simpa using this
theorem findV_none {s:Sta} {l:List Lab}:findV s l=none↔∀x∈s.2.2.2,¬(x.1=l∧LvX s x):=by
  unfold findV
  rw[List.findIdx?_eq_none_iff]
  simp
theorem roomV_some {s:Sta} {i:Nat}:roomV s=some i↔∃x,s.2.2.2[i]? = some x∧¬LvX s x∧∀j,j<i→∀y,s.2.2.2[j]? = some y→LvX s y:=by
  unfold roomV
  rw[List.findIdx?_eq_some_iff_getElem]
  constructor
  · rintro ⟨h,h1,h2⟩
    refine ⟨_,List.getElem?_eq_getElem h,of_decide_eq_true h1,fun j hj y hy => ?_⟩
    obtain ⟨hjl,e⟩:=List.getElem?_eq_some_iff.1 hy
    have:=h2 j hj
    rw[e] at this
    simpa using this
  · rintro ⟨x,hx,h1,h3⟩
    obtain ⟨hl,e⟩:=List.getElem?_eq_some_iff.1 hx
    refine ⟨hl,by rw[e];exact decide_eq_true h1,fun j hj => ?_⟩
    have:=h3 j hj _ (List.getElem?_eq_getElem (by omega))
    simpa using this
theorem roomV_none {s:Sta}:roomV s=none↔∀x∈s.2.2.2,LvX s x:=by
  unfold roomV
  rw[List.findIdx?_eq_none_iff]
  simp
theorem lvAt_some {s:Sta} {i:Nat} {x:Ser} (h:s.2.2.2[i]? = some x):lvAt s i=decide (LvX s x):=by
  unfold lvAt;rw[h]
theorem live_len (s:Sta):(liveV s).length≤s.2.2.2.length:=by
  have:=List.length_filter_le (lvAt s) (List.range s.2.2.2.length)
  simpa [liveV] using this
structure Goes (s:Sta) (l:List Lab) (e:Ev):Prop where
  st:StaOk s
  lab:LabOk l
  ev:EvOk e
  lo:mk s≤e.1
  hi:e.1<mk s+s.1.2.1.1
inductive PlaceAt (s:Sta) (l:List Lab) (e:Ev):Nat→Ser→Bool→Prop
  | found {i:Nat} {x:Ser} (hf:findV s l=some i) (hx:s.2.2.2[i]? = some x) (hl:x.1=l) (hlv:LvX s x) (ht:x.2.1<e.1):PlaceAt s l e i x false
  | room {i:Nat} (hf:findV s l=none) (hs:e.2.2.2=false) (hr:roomV s=some i):PlaceAt s l e i (l,(-1,(r0w,(emp s.1,s0)))) true
structure Ends3 (c:Conf) (s:Ser):Prop where
  t0:s.2.1 = -1∨NoBehind s.2.2.2.1.1 (s.2.1 / c.2.1.1)∧CellN s.2.2.2.2.2∧s.2.2.2.2.2.2.1.1 / c.2.1.1=s.2.1 / c.2.1.1
  t1:s.2.1 = -1∨∃m,now1 c s=(m,0)∧NoBehind s.2.2.2.1.2.1 (s.2.1 / c.2.1.2.1)∧CellN m∧m.2.1.1 / c.2.1.2.1=s.2.1 / c.2.1.2.1
  t2:s.2.1 = -1∨∃m,now2 c s=(m,0)∧NoBehind s.2.2.2.1.2.2 (s.2.1 / c.2.1.2.2)∧CellN m∧m.2.1.1 / c.2.1.2.2=s.2.1 / c.2.1.2.2
noncomputable def dueAt (s:Sta) (i:Nat):Bool:=match s.2.2.2[i]? with | some x=>deadV s.1 x.2.1 s.2.1 | none=>false
noncomputable def dueV (s:Sta):List Nat:=if StaOk s then (liveV s).filter (dueAt s) else []
theorem live_ok {s:Sta} (h:StaOk s) {x:Ser} (hx:x∈s.2.2.2) (hl:LvX s x):SerOk s.1 x∧0≤x.2.1:=by
  obtain ⟨i,hi,e⟩:=List.getElem_of_mem hx
  rcases h.right i x (by rw[List.getElem?_eq_getElem hi,e]) with k | k
  · exact absurd k hl.1
  · exact ⟨k.1,k.2.1⟩
end Go.Proofs.YtjeabebacegikaaGreatDoor
namespace Go.Proofs.YtjeabebacegikaaGreatDoor
open Go.Flat
def rd (st:List UInt8×Bool) (k:Nat):Int×(List UInt8×Bool):=if st.2=true∨st.1.length<k then (0,([],true)) else (valI (bytesI (st.1.take k)),(st.1.drop k,false))
def q0 (s:List UInt8):=rd (s,false) 4
def q1 (s:List UInt8):=rd (q0 s).2 8
def q2 (s:List UInt8):=rd (q1 s).2 8
def q3 (s:List UInt8):=rd (q2 s).2 8
def q4 (s:List UInt8):=rd (q3 s).2 4
def q5 (s:List UInt8):=rd (q4 s).2 4
def q6 (s:List UInt8):=rd (q5 s).2 4
def q7 (s:List UInt8):=rd (q6 s).2 4
def q8 (s:List UInt8):=rd (q7 s).2 4
def q9 (s:List UInt8):=rd (q8 s).2 8
structure Full (s:List UInt8):Prop where
  z:(q9 s).1=0
  good:(q9 s).2.2=false
  left:(q9 s).2.1=[]
def idxC (c:Conf):Int:=prt c.2.2.2.2 120
def hom (c:Conf):Int:=1+idxC c+c.2.2.2.2
end Go.Proofs.YtjeabebacegikaaGreatDoor
namespace Go.Proofs.YtjeabebacegikaaGreatDoor
open Go.Flat Go.Plim
set_option linter.unusedVariables false
set_option linter.unusedSimpArgs false
theorem el_get {l:List Ser} {k:Nat} (h:k<l.length):∃y,l[k]? = some y:=⟨l[k],List.getElem?_eq_getElem h⟩
noncomputable def findR (s:Sta) (l:List Lab):Int×Int:=if Whole s then (match findV s l with | some i=>((i:Int),0) | none=>(0,3)) else (0,2)
noncomputable def roomR (s:Sta):Int×Int:=if Whole s then (match roomV s with | some i=>((i:Int),0) | none=>(0,7)) else (0,2)
noncomputable def liveR (s:Sta):List Int:=if Whole s then (liveV s).map Int.ofNat else []
def IsF (s:Sta) (l:List Lab) (k:Nat):Prop:=∃y,s.2.2.2[k]? = some y∧y.1=l∧LvX s y
noncomputable instance (s l k):Decidable (IsF s l k):=Classical.propDecidable _
def IsR (s:Sta) (k:Nat):Prop:=∃y,s.2.2.2[k]? = some y∧¬LvX s y
noncomputable instance (s k):Decidable (IsR s k):=Classical.propDecidable _
theorem find_first {s:Sta} {l:List Lab} {m:Nat} (h:IsF s l m) (hn:∀j,j<m→¬IsF s l j):findV s l=some m:=by
  obtain ⟨y,h1,h2,h3⟩:=h
  exact findV_some.2 ⟨y,h1,h2,h3,fun j hj z hz k=>hn j hj ⟨z,hz,k.1,k.2⟩⟩
theorem find_no {s:Sta} {l:List Lab} (hn:∀j,j<s.2.2.2.length→¬IsF s l j):findV s l=none:=by
  refine findV_none.2 fun x hx k => ?_
  obtain ⟨i,hi,e⟩:=List.getElem_of_mem hx
  exact hn i hi ⟨x,by rw[List.getElem?_eq_getElem hi,e],k.1,k.2⟩
theorem room_first {s:Sta} {m:Nat} (h:IsR s m) (hn:∀j,j<m→¬IsR s j):roomV s=some m:=by
  obtain ⟨y,h1,h2⟩:=h
  exact roomV_some.2 ⟨y,h1,h2,fun j hj z hz=>Decidable.byContradiction fun k=>hn j hj ⟨z,hz,k⟩⟩
theorem room_no {s:Sta} (hn:∀j,j<s.2.2.2.length→¬IsR s j):roomV s=none:=by
  refine roomV_none.2 fun x hx=>Decidable.byContradiction fun k => ?_
  obtain ⟨i,hi,e⟩:=List.getElem_of_mem hx
  exact hn i hi ⟨x,by rw[List.getElem?_eq_getElem hi,e],k⟩
theorem stt_find (n:Nat) {s:Sta} (hw:StaW s) (l:List Lab):stt_Find (n+10) s l=some (findR s l):=by
  rw[stt_Find_eq,st_open (n+5) s,obs,tfn,tfd]
  unfold findR
  by_cases h:Whole s
  case neg=>rw[if_neg h,if_neg h,if_neg (show ¬((sta0,(2:Int)).2=0) by decide)]
  rw[if_pos h,if_pos h,if_pos rfl]
  have his:∀k:Nat,k<s.2.2.2.length→(fun y1:Int×Unit=>stt_Find_1 (n+9) y1.1 s l s) ((k:Int),())=some (decide (IsF s l k)):=by
    intro k hk
    obtain ⟨y,hy⟩:=el_get hk
    have hm:=(hw.at hy).2
    show stt_Find_1 (n+9) (k:Int) s l s=_
    rw[stt_Find_1_eq,at_el hy,obs,label_same (n+6) _ _ hm.l,obs,tfd,st_lives (n+1) hy hm,obs]
    by_cases h1:y.1=l
    · rw[if_pos h1]
      refine congrArg some (decide_eq_decide.2 ⟨fun k=>⟨y,hy,h1,k⟩,fun ⟨z,z1,z2,z3⟩ => ?_⟩)
      rw[hy] at z1;cases z1;exact z3
    · rw[if_neg h1,decide_eq_false (fun q:IsF s l k=>by obtain ⟨z,z1,z2,z3⟩:=q;rw[hy] at z1;cases z1;exact h1 z2)]
  rcases first_val (n+8) s (fun y1:Int×Unit=>stt_Find_1 (n+9) y1.1 s l s) (fun k=>decide (IsF s l k)) (by have:=h.len;omega) his with ⟨m,q1,q2,q3,q4⟩ | ⟨q1,q2⟩
  · rw[show (fun y1:Int×Unit=>stt_Find_1 (n+9) y1.1 s l (s,(0:Int)).1)=fun y1:Int×Unit=>stt_Find_1 (n+9) y1.1 s l s from rfl,q4,obs,tfd,if_neg (by omega),find_first (of_decide_eq_true q2) (fun j hj=>of_decide_eq_false (q3 j hj))]
  · rw[show (fun y1:Int×Unit=>stt_Find_1 (n+9) y1.1 s l (s,(0:Int)).1)=fun y1:Int×Unit=>stt_Find_1 (n+9) y1.1 s l s from rfl,q2,obs,tfd,if_pos (by decide),find_no (fun j hj=>of_decide_eq_false (q1 j hj))]
theorem stt_room (n:Nat) {s:Sta} (hw:StaW s):stt_Room (n+10) s=some (roomR s):=by
  rw[stt_Room_eq,st_open (n+5) s,obs,tfn,tfd]
  unfold roomR
  by_cases h:Whole s
  case neg=>rw[if_neg h,if_neg h,if_neg (show ¬((sta0,(2:Int)).2=0) by decide)]
  rw[if_pos h,if_pos h,if_pos rfl]
  have his:∀k:Nat,k<s.2.2.2.length→(fun y1:Int×Unit=>stt_Room_1 (n+9) y1.1 s) ((k:Int),())=some (decide (IsR s k)):=by
    intro k hk
    obtain ⟨y,hy⟩:=el_get hk
    have hm:=(hw.at hy).2
    show stt_Room_1 (n+9) (k:Int) s=_
    rw[stt_Room_1_eq,st_lives (n+1) hy hm,obs]
    by_cases h1:LvX s y
    · rw[decide_eq_true h1,decide_eq_false (fun q:IsR s k=>by obtain ⟨z,z1,z2⟩:=q;rw[hy] at z1;cases z1;exact z2 h1)];rfl
    · rw[decide_eq_false h1,decide_eq_true (show IsR s k from ⟨y,hy,h1⟩)];rfl
  rcases first_val (n+8) s (fun y1:Int×Unit=>stt_Room_1 (n+9) y1.1 s) (fun k=>decide (IsR s k)) (by have:=h.len;omega) his with ⟨m,q1,q2,q3,q4⟩ | ⟨q1,q2⟩
  · rw[show (fun y1:Int×Unit=>stt_Room_1 (n+9) y1.1 (s,(0:Int)).1)=fun y1:Int×Unit=>stt_Room_1 (n+9) y1.1 s from rfl,q4,obs,tfd,if_neg (by omega),room_first (of_decide_eq_true q2) (fun j hj=>of_decide_eq_false (q3 j hj))]
  · rw[show (fun y1:Int×Unit=>stt_Room_1 (n+9) y1.1 (s,(0:Int)).1)=fun y1:Int×Unit=>stt_Room_1 (n+9) y1.1 s from rfl,q2,obs,tfd,if_pos (by decide),room_no (fun j hj=>of_decide_eq_false (q1 j hj))]
theorem r17_find_l4 (n:Nat) {s:Sta} (hw:StaW s) (hL:s.2.2.2.length≤1000000) (l:List Lab):∀(d k f:Nat),k+d=s.2.2.2.length→d<f →
    (∃m:Nat,k≤m∧IsF s l m∧(∀j,k≤j→j<m→¬IsF s l j)∧r17_Find_l4 (n+6) f (l,s,s.2.2.2,(s.2.2.2.length:Int),(k:Int),())=some (.inr ((m:Int),0))) ∨
    ((∀j,k≤j→j<s.2.2.2.length→¬IsF s l j)∧r17_Find_l4 (n+6) f (l,s,s.2.2.2,(s.2.2.2.length:Int),(k:Int),())=some (.inl ())):=by
  intro d
  induction d with
  | zero =>
    intro k f hk hf
    obtain ⟨f,rfl⟩:∃g,f=g+1:=⟨f-1,by omega⟩
    refine .inr ⟨fun j h1 h2=>by omega,?_⟩
    rw[r17_Find_l4_eq,decide_eq_false (by omega),tff]
  | succ d ih =>
    intro k f hk hf
    obtain ⟨f,rfl⟩:∃g,f=g+1:=⟨f-1,by omega⟩
    obtain ⟨y,hy⟩:=el_get (l:=s.2.2.2) (k:=k) (by omega)
    have hm:=(hw.at hy).2
    have ih':=ih (k+1) f (by omega) (by omega)
    have next:¬IsF s l k→((∃m:Nat,k≤m∧IsF s l m∧(∀j,k≤j→j<m→¬IsF s l j)∧r17_Find_l4 (n+6) f (l,s,s.2.2.2,(s.2.2.2.length:Int),((k+1:Nat):Int),())=some (.inr ((m:Int),0))) ∨
    ((∀j,k≤j→j<s.2.2.2.length→¬IsF s l j)∧r17_Find_l4 (n+6) f (l,s,s.2.2.2,(s.2.2.2.length:Int),((k+1:Nat):Int),())=some (.inl ()))):=by
      intro hn
      have low:∀j,k≤j→¬k+1≤j→¬IsF s l j:=fun j h1 h2=>by rw[show j=k by omega];exact hn
      rcases ih' with ⟨m,h1,h2,h3,h4⟩ | ⟨h1,h2⟩
      · exact .inl ⟨m,by omega,h2,fun j q1 q2=>if z:k+1≤j then h3 j z q2 else low j q1 z,h4⟩
      · exact .inr ⟨fun j q1 q2=>if z:k+1≤j then h1 j z q2 else low j q1 z,h2⟩
    rw[r17_Find_l4_eq,decide_eq_true (by omega),tft,at_el hy,obs,r17_lives_val n hy hm,obs,tfd,eq_r05_Same (n+5) _ _ hm.l,obs,tfd,w64 (by omega) (by omega),show ((k:Int)+1)=((k+1:Nat):Int) by omega]
    by_cases h1:LvX s y
    case neg=>rw[if_neg h1];exact next (fun q=>by obtain ⟨z,z1,z2,z3⟩:=q;rw[hy] at z1;cases z1;exact h1 z3)
    rw[if_pos h1]
    by_cases h2:y.1=l
    case neg=>rw[if_neg h2];exact next (fun q=>by obtain ⟨z,z1,z2,z3⟩:=q;rw[hy] at z1;cases z1;exact h2 z2)
    rw[if_pos h2]
    exact .inl ⟨k,Nat.le_refl _,⟨y,hy,h2,h1⟩,fun j q1 q2=>by omega,rfl⟩
theorem r17_find (n:Nat) {s:Sta} (hw:StaW s) (l:List Lab):r17_Find (n+7) s l=some (findR s l):=by
  rw[r17_Find_eq,r17_whole_val (n+2) s,obs,tfn,tfd]
  unfold findR
  by_cases h:Whole s
  case neg=>rw[if_neg h,if_neg h]
  rw[if_pos h,if_pos h]
  have hL:=h.len
  rcases r17_find_l4 n hw (by omega) l s.2.2.2.length 0 loopFuel (by omega) (by unfold loopFuel;omega) with ⟨m,q1,q2,q3,q4⟩ | ⟨q1,q2⟩
  · have q4':r17_Find_l4 (n+6) loopFuel (l,s,s.2.2.2,(s.2.2.2.length:Int),(0:Int),())=some (.inr ((m:Int),0)):=q4
    rw[q4',obs,selim_inr,find_first q2 (fun j hj=>q3 j (by omega) hj)]
  · have q2':r17_Find_l4 (n+6) loopFuel (l,s,s.2.2.2,(s.2.2.2.length:Int),(0:Int),())=some (.inl ()):=q2
    rw[q2',obs,selim_inl,find_no (fun j hj=>q1 j (by omega) hj)]
theorem r17_room_l4 (n:Nat) {s:Sta} (hw:StaW s) (hL:s.2.2.2.length≤1000000):∀(d k f:Nat),k+d=s.2.2.2.length→d<f →
    (∃m:Nat,k≤m∧IsR s m∧(∀j,k≤j→j<m→¬IsR s j)∧r17_Room_l4 (n+6) f (s,(s.2.2.2.length:Int),(k:Int),())=some (.inr ((m:Int),0))) ∨
    ((∀j,k≤j→j<s.2.2.2.length→¬IsR s j)∧r17_Room_l4 (n+6) f (s,(s.2.2.2.length:Int),(k:Int),())=some (.inl ())):=by
  intro d
  induction d with
  | zero =>
    intro k f hk hf
    obtain ⟨f,rfl⟩:∃g,f=g+1:=⟨f-1,by omega⟩
    refine .inr ⟨fun j h1 h2=>by omega,?_⟩
    rw[r17_Room_l4_eq,decide_eq_false (by omega),tff]
  | succ d ih =>
    intro k f hk hf
    obtain ⟨f,rfl⟩:∃g,f=g+1:=⟨f-1,by omega⟩
    obtain ⟨y,hy⟩:=el_get (l:=s.2.2.2) (k:=k) (by omega)
    have hm:=(hw.at hy).2
    have ih':=ih (k+1) f (by omega) (by omega)
    rw[r17_Room_l4_eq,decide_eq_true (by omega),tft,r17_lives_val n hy hm,obs,tfn,tfd,w64 (by omega) (by omega),show ((k:Int)+1)=((k+1:Nat):Int) by omega]
    by_cases h1:LvX s y
    · rw[if_pos h1]
      have hn:¬IsR s k:=fun q=>by obtain ⟨z,z1,z2⟩:=q;rw[hy] at z1;cases z1;exact z2 h1
      have low:∀j,k≤j→¬k+1≤j→¬IsR s j:=fun j h1 h2=>by rw[show j=k by omega];exact hn
      rcases ih' with ⟨m,h1,h2,h3,h4⟩ | ⟨h1,h2⟩
      · exact .inl ⟨m,by omega,h2,fun j q1 q2=>if z:k+1≤j then h3 j z q2 else low j q1 z,h4⟩
      · exact .inr ⟨fun j q1 q2=>if z:k+1≤j then h1 j z q2 else low j q1 z,h2⟩
    · rw[if_neg h1]
      exact .inl ⟨k,Nat.le_refl _,⟨y,hy,h1⟩,fun j q1 q2=>by omega,rfl⟩
theorem r17_room (n:Nat) {s:Sta} (hw:StaW s):r17_Room (n+7) s=some (roomR s):=by
  rw[r17_Room_eq,r17_whole_val (n+2) s,obs,tfn,tfd]
  unfold roomR
  by_cases h:Whole s
  case neg=>rw[if_neg h,if_neg h]
  rw[if_pos h,if_pos h]
  have hL:=h.len
  rcases r17_room_l4 n hw (by omega) s.2.2.2.length 0 loopFuel (by omega) (by unfold loopFuel;omega) with ⟨m,q1,q2,q3,q4⟩ | ⟨q1,q2⟩
  · have q4':r17_Room_l4 (n+6) loopFuel (s,(s.2.2.2.length:Int),(0:Int),())=some (.inr ((m:Int),0)):=q4
    rw[q4',obs,selim_inr,room_first q2 (fun j hj=>q3 j (by omega) hj)]
  · have q2':r17_Room_l4 (n+6) loopFuel (s,(s.2.2.2.length:Int),(0:Int),())=some (.inl ()):=q2
    rw[q2',obs,selim_inl,room_no (fun j hj=>q1 j (by omega) hj)]
theorem lvAt_el {s:Sta} {k:Nat} {y:Ser} (h:s.2.2.2[k]? = some y):decide (LvX s y)=lvAt s k:=(lvAt_some h).symm
theorem st_live_l6 (n:Nat) {s:Sta} (hw:StaW s) (hL:s.2.2.2.length≤1000000):∀(d k f:Nat) (out:List Int),k+d=s.2.2.2.length→d<f→out.length≤k →
    stt_Live_l6 (n+7) f (s,out,(s.2.2.2.length:Int),(k:Int),())=some (.inl (out++((List.range' k d).filter (lvAt s)).map Int.ofNat,())):=by
  intro d
  induction d with
  | zero =>
    intro k f out hk hf ho
    obtain ⟨f,rfl⟩:∃g,f=g+1:=⟨f-1,by omega⟩
    rw[stt_Live_l6_eq,decide_eq_false (by omega),tff];simp
  | succ d ih =>
    intro k f out hk hf ho
    obtain ⟨f,rfl⟩:∃g,f=g+1:=⟨f-1,by omega⟩
    obtain ⟨y,hy⟩:=el_get (l:=s.2.2.2) (k:=k) (by omega)
    rw[stt_Live_l6_eq,decide_eq_true (by omega),tft,st_lives n hy (hw.at hy).2,obs,lvAt_el hy,w64 (by omega) (by omega),show ((k:Int)+1)=((k+1:Nat):Int) by omega,List.range'_succ]
    cases h:lvAt s k
    · rw[tff,ih (k+1) f out (by omega) (by omega) (by omega),List.filter_cons_of_neg (by simp[h])]
    · rw[tft,decide_eq_true (by omega),tft,ih (k+1) f _ (by omega) (by omega) (by simp;omega),List.filter_cons_of_pos h];simp
theorem stt_live (n:Nat) {s:Sta} (hw:StaW s):stt_Live (n+8) s=some (liveR s):=by
  rw[stt_Live_eq,st_open (n+3) s,obs,tfn,tfd]
  unfold liveR
  by_cases h:Whole s
  case neg=>rw[if_neg h,if_neg h,if_neg (show ¬((sta0,(2:Int)).2=0) by decide)]
  rw[if_pos h,if_pos h,if_pos rfl]
  have hL:=h.len
  have e:stt_Live_l6 (n+7) loopFuel (s,([]:List Int),(s.2.2.2.length:Int),(0:Int),())=_:=st_live_l6 n hw (by omega) s.2.2.2.length 0 loopFuel [] (by omega) (by unfold loopFuel;omega) (by simp)
  simp only
  rw[e,obs,selim_inl]
  unfold liveV
  rw[List.range_eq_range'];rfl
theorem r17_live_l5 (n:Nat) {s:Sta} (hw:StaW s) (hL:s.2.2.2.length≤1000000):∀(d k f:Nat) (out:List Int),k+d=s.2.2.2.length→d<f→out.length≤k →
    r17_Live_l5 (n+6) f (s,out,(s.2.2.2.length:Int),(k:Int),())=some (.inl (out++((List.range' k d).filter (lvAt s)).map Int.ofNat,())):=by
  intro d
  induction d with
  | zero =>
    intro k f out hk hf ho
    obtain ⟨f,rfl⟩:∃g,f=g+1:=⟨f-1,by omega⟩
    rw[r17_Live_l5_eq,decide_eq_false (by omega),tff];simp
  | succ d ih =>
    intro k f out hk hf ho
    obtain ⟨f,rfl⟩:∃g,f=g+1:=⟨f-1,by omega⟩
    obtain ⟨y,hy⟩:=el_get (l:=s.2.2.2) (k:=k) (by omega)
    rw[r17_Live_l5_eq,decide_eq_true (by omega),tft,r17_lives_val n hy (hw.at hy).2,obs,lvAt_el hy,w64 (by omega) (by omega),show ((k:Int)+1)=((k+1:Nat):Int) by omega,List.range'_succ]
    cases h:lvAt s k
    · rw[tff,ih (k+1) f out (by omega) (by omega) (by omega),List.filter_cons_of_neg (by simp[h])]
    · rw[tft,decide_eq_true (by omega),tft,ih (k+1) f _ (by omega) (by omega) (by simp;omega),List.filter_cons_of_pos h];simp
theorem r17_live (n:Nat) {s:Sta} (hw:StaW s):r17_Live (n+7) s=some (liveR s):=by
  rw[r17_Live_eq,r17_whole_val (n+2) s,obs,tfn,tfd]
  unfold liveR
  by_cases h:Whole s
  case neg=>rw[if_neg h,if_neg h]
  rw[if_pos h,if_pos h]
  have hL:=h.len
  have e:r17_Live_l5 (n+6) loopFuel (s,([]:List Int),(s.2.2.2.length:Int),(0:Int),())=_:=r17_live_l5 n hw (by omega) s.2.2.2.length 0 loopFuel [] (by omega) (by unfold loopFuel;omega) (by simp)
  rw[e,obs,selim_inl]
  unfold liveV
  rw[List.range_eq_range'];rfl
noncomputable def livesB (s:Sta) (i:Int):Bool:=decide (Whole s∧0≤i∧lvAt s i.toNat=true)
theorem lvAt_lt {s:Sta} {k:Nat} (h:lvAt s k=true):k<s.2.2.2.length:=by
  unfold lvAt at h
  cases hx:s.2.2.2[k]? with
  | none=>rw[hx] at h;cases h
  | some x=>exact (List.getElem?_eq_some_iff.1 hx).1
theorem stt_lives (n:Nat) {s:Sta} (hw:StaW s) (i:Int):stt_Lives (n+8) s i=some (livesB s i):=by
  rw[stt_Lives_eq,st_open (n+3) s,obs,tfd,tfd,tfd]
  unfold livesB
  by_cases h:Whole s
  case neg=>rw[if_neg h,if_neg (show ¬((sta0,(2:Int)).2=0) by decide),decide_eq_false (fun k=>h k.1)]
  rw[if_pos h,if_pos rfl]
  by_cases h1:0≤i
  case neg=>rw[if_neg h1,decide_eq_false (fun k=>h1 k.2.1)]
  rw[if_pos h1]
  by_cases h2:i<(s.2.2.2.length:Int)
  · rw[if_pos h2]
    obtain ⟨y,hy⟩:=el_get (l:=s.2.2.2) (k:=i.toNat) (by omega)
    have e:=st_lives n hy (hw.at hy).2
    rw[show ((i.toNat:Nat):Int)=i by omega] at e
    simp only
    rw[e,obs,lvAt_el hy]
    cases h3:lvAt s i.toNat
    · rw[decide_eq_false (by rintro ⟨_,_,k⟩;cases k)]
    · rw[decide_eq_true ⟨h,h1,rfl⟩]
  · rw[if_neg h2,decide_eq_false (fun k=>by have:=lvAt_lt k.2.2;omega)]
theorem r17_Lives_val (n:Nat) {s:Sta} (hw:StaW s) (i:Int):r17_Lives (n+7) s i=some (livesB s i):=by
  rw[r17_Lives_eq,r17_whole_val (n+2) s,obs,tfd,tfd,tfd]
  unfold livesB
  by_cases h:Whole s
  case neg=>rw[if_neg h,decide_eq_false (fun k=>h k.1)]
  rw[if_pos h]
  by_cases h1:0≤i
  case neg=>rw[if_neg h1,decide_eq_false (fun k=>h1 k.2.1)]
  rw[if_pos h1]
  by_cases h2:i<(s.2.2.2.length:Int)
  · rw[if_pos h2]
    obtain ⟨y,hy⟩:=el_get (l:=s.2.2.2) (k:=i.toNat) (by omega)
    have e:=r17_lives_val n hy (hw.at hy).2
    rw[show ((i.toNat:Nat):Int)=i by omega] at e
    rw[e,obs,lvAt_el hy]
    cases h3:lvAt s i.toNat
    · rw[decide_eq_false (by rintro ⟨_,_,k⟩;cases k)]
    · rw[decide_eq_true ⟨h,h1,rfl⟩]
  · rw[if_neg h2,decide_eq_false (fun k=>by have:=lvAt_lt k.2.2;omega)]
theorem lvAt_iff {s:Sta} {i:Nat}:lvAt s i=true↔∃x,s.2.2.2[i]? = some x∧LvX s x:=by
  unfold lvAt
  cases s.2.2.2[i]? with
  | none=>simp
  | some x=>simp
theorem chk_ok {α:Type} {s:Sta} (h:StaOk s) (x y:α):tif (decide ((if StaOk s then (0:Int) else 2)=0)) x y=x:=by rw[if_pos h];rfl
theorem chk_no {α:Type} {s:Sta} (h:¬StaOk s) (x y:α):tif (decide ((if StaOk s then (0:Int) else 2)=0)) x y=y:=by rw[if_neg h];rfl
theorem at_nn {α:Type} {l:List α} {i:Int} {x:α} (h0:0≤i) (h:l[i.toNat]? = some x):at? l i=some x:=by unfold at?;rw[decide_eq_true h0];exact h
section
variable {del:Int×Unit→Option Bool} {p:Int→Bool} {L:List Int} (hd:∀x∈L,del (x,())=some (p x))
include hd
theorem index_il (n:Nat) (l:List Int) (hL:l.length≤1000000):∀(rest pre:List Int) (f:Nat) (i len:Int),(∀x∈rest,x∈L)→l=pre++rest→i=pre.length→len=l.length→rest.length<f →
    (sl_IndexFunc_int_l2 n f (l,del,len,i,())=some (.inl ())∧∀x∈rest,p x=false) ∨
    (∃A x B,rest=A++x::B∧(∀y∈A,p y=false)∧p x=true∧sl_IndexFunc_int_l2 n f (l,del,len,i,())=some (.inr (i+A.length))):=by
  intro rest
  induction rest with
  | nil =>
    intro pre f i len hm hl hi hn hf
    obtain ⟨f,rfl⟩:∃g,f=g+1:=⟨f-1,by simp at hf;omega⟩
    rw[sl_IndexFunc_int_l2_eq]
    exact .inl ⟨by simp only[tfd,if_neg (idxe hl hi hn)],by simp⟩
  | cons x rest ih =>
    intro pre f i len hm hl hi hn hf
    obtain ⟨f,rfl⟩:∃g,f=g+1:=⟨f-1,by simp at hf;omega⟩
    rw[sl_IndexFunc_int_l2_eq]
    simp only[tfd,if_pos (idx hl hi hn),at_mid hl hi,obs,hd x (hm x (by simp)),idxw hl hi (show l.length≤1000000000000 by omega)]
    cases hp:p x with
    | true=>exact .inr ⟨[],x,rest,rfl,by simp,hp,by simp⟩
    | false =>
      rw[tff]
      rcases ih (pre++[x]) f (i+1) len (fun y hy=>hm y (by simp[hy])) (idxl hl) (idxs hi) hn (by simp at hf;omega) with ⟨h1,h2⟩ | ⟨A,y,B,h1,h2,h3,h4⟩
      · exact .inl ⟨h1,by intro z hz;rcases List.mem_cons.1 hz with rfl | hz;exact hp;exact h2 z hz⟩
      · refine .inr ⟨x::A,y,B,by rw[h1];rfl,?_,h3,by rw[h4,List.length_cons,show i+1+(A.length:Int)=i+((A.length+1:Nat):Int) by omega]⟩
        intro z hz
        rcases List.mem_cons.1 hz with rfl | hz
        · exact hp
        · exact h2 z hz
theorem delete_il (n:Nat) (l0:List Int) (hL:l0.length≤1000000):∀(rest F G:List Int) (f:Nat) (i j:Int),(∀x∈rest,x∈L)→(F++(G++rest)).length=l0.length→G≠[]→i=F.length→j=F.length+G.length→rest.length<f →
    ∃G',sl_DeleteFunc_int_l5 n f (F++(G++rest),del,i,j,())=some (.inl (F++rest.filter (fun x => !p x)++G',(F++rest.filter (fun x => !p x)).length,()))∧(F++rest.filter (fun x => !p x)++G').length=l0.length:=by
  intro rest
  induction rest with
  | nil =>
    intro F G f i j hm hl hg hi hj hf
    obtain ⟨f,rfl⟩:∃g,f=g+1:=⟨f-1,by simp at hf;omega⟩
    rw[sl_DeleteFunc_int_l5_eq]
    have:¬(j<((F++(G++[])).length:Int)):=by simp;omega
    simp only[tfd,if_neg this]
    exact ⟨G,by simp[hi],by simpa using hl⟩
  | cons x rest ih =>
    intro F G f i j hm hl hg hi hj hf
    have hm':∀y∈rest,y∈L:=fun y hy=>hm y (by simp[hy])
    obtain ⟨f,rfl⟩:∃g,f=g+1:=⟨f-1,by simp at hf;omega⟩
    rw[sl_DeleteFunc_int_l5_eq]
    simp only[List.length_append,List.length_cons] at hl
    have hlt:j<((F++(G++x::rest)).length:Int):=by simp;omega
    have hat:at? (F++(G++x::rest)) j=some x:=at_mid (pre:=F++G) (rest:=rest) (by simp) (by simp;omega)
    have hget:(F++(G++x::rest))[j.toNat]? = some x:=by
      rw[show j.toNat=F.length+G.length by omega,List.getElem?_append_right (by omega),List.getElem?_append_right (by omega)]
      simp
    simp only[tfd,if_pos hlt,hat,hget,obs,hd x (hm x (by simp))]
    have wj:IntKind.wrap .i64 (j+1)=j+1:=by rw[w64 (by omega) (by omega)]
    have wi:IntKind.wrap .i64 (i+1)=i+1:=by rw[w64 (by omega) (by omega)]
    rw[wj,wi]
    match G,hg with
    | g::G,_ =>
    cases hp:p x with
    | false =>
      have hat':at? (F++(g::G++x::rest)) i=some g:=at_mid (pre:=F) (rest:=G++x::rest) (by simp) hi
      have hget':(F++(g::G++x::rest))[i.toNat]? = some g:=by
        rw[show i.toNat=F.length by omega];simp
      have hset:(F++(g::G++x::rest)).set i.toNat x=(F++[x])++((G++[x])++rest):=by
        rw[show i.toNat=F.length by omega,List.set_append_right _ _ (by omega)]
        simp
      simp only[Bool.not_false,tft,hat',hget',obs,hset]
      obtain ⟨G',h1,h2⟩:=ih (F++[x]) (G++[x]) f (i+1) (j+1) hm' (by simp at hl ⊢;omega) (by simp) (by simp;omega) (by simp at hj ⊢;omega) (by simp at hf;omega)
      refine ⟨G',?_,?_⟩
      · rw[h1];simp[List.filter_cons,hp]
      · rw[←h2];simp[List.filter_cons,hp]
    | true =>
      simp only[Bool.not_true,tff]
      obtain ⟨G',h1,h2⟩:=ih F (g::G++[x]) f i (j+1) hm' (by simp at hl ⊢;omega) (by simp) hi (by simp at hj ⊢;omega) (by simp at hf;omega)
      simp only[List.append_assoc,List.singleton_append] at h1
      refine ⟨G',?_,?_⟩
      · rw[h1];simp[List.filter_cons,hp]
      · rw[←h2];simp[List.filter_cons,hp]
theorem delete_int (n:Nat) (l:List Int) (hL:l.length≤1000000) (hm:∀x∈l,x∈L):sl_DeleteFunc_int (n+2) l del=some (l.filter fun x => !p x):=by
  rw[sl_DeleteFunc_int_eq,sl_IndexFunc_int_eq]
  rcases index_il hd n l hL l [] loopFuel 0 l.length hm rfl rfl rfl (by unfold loopFuel;omega) with ⟨h1,h2⟩ | ⟨A,x,B,h1,h2,h3,h4⟩
  · rw[h1]
    simp only[obs,selim_inl,tfd,if_pos trivial]
    exact congrArg some (List.filter_eq_self.2 fun y hy=>by simp[h2 y hy]).symm
  · rw[h4]
    have hl:l.length=A.length+(B.length+1):=by rw[h1];simp
    simp only[obs,selim_inr,tfd,Int.zero_add]
    rw[if_neg (by omega),w64 (x:=(A.length:Int)+1) (by omega) (by omega)]
    obtain ⟨G',g1,g2⟩:=delete_il hd (n+1) l hL B A [x] loopFuel (A.length:Int) (A.length+1) (fun y hy=>hm y (by rw[h1];simp[hy])) (by rw[h1];simp) (by simp) rfl (by simp) (by unfold loopFuel;omega)
    rw[show A++([x]++B)=l by rw[h1];simp] at g1
    rw[g1]
    have hF:A++B.filter (fun x => !p x)=l.filter fun x => !p x:=by
      rw[h1,List.filter_append,List.filter_cons]
      have:A.filter (fun x => !p x)=A:=List.filter_eq_self.2 fun y hy=>by simp[h2 y hy]
      simp[h3,this]
    rw[hF] at g2 ⊢
    generalize (l.filter fun x => !p x)=F at *
    simp only[obs,selim_inl,tif_and,tfd,Int.toNat_natCast]
    have hle:F.length≤(F++G').length:=by simp
    have k1:putRow (F++G') F.length (List.replicate ((F++G').length-F.length) (0:Int))=F++List.replicate ((F++G').length-F.length) (0:Int):=by
      unfold putRow
      rw[List.drop_of_length_le (by simp)]
      simp
    rw[k1,if_pos (by omega),if_pos hle,if_pos (by omega),if_pos (by omega),if_pos (by simp;omega)]
    simp
end
theorem live_at {s:Sta} {z:Int} (h:z∈(liveV s).map Int.ofNat):0≤z∧∃y,s.2.2.2[z.toNat]? = some y∧LvX s y:=by
  obtain ⟨i,hi,rfl⟩:=List.mem_map.1 h
  have h1:=(List.mem_filter.1 hi).2
  obtain ⟨x,hx,hl⟩:=lvAt_iff.1 h1
  exact ⟨Int.natCast_nonneg i,x,hx,hl⟩
theorem sweep_due_1 (n:Nat) {s:Sta} {z:Int} {x:Ser} (h0:0≤z) (hx:s.2.2.2[z.toNat]? = some x):sweep_Due_1 (n+7) z s=some (!dueAt s z.toNat):=by
  rw[sweep_Due_1_eq,at_nn h0 hx,obs,series_dead n,obs]
  unfold dueAt
  rw[hx]
theorem due_list (s:Sta):((liveV s).map Int.ofNat).filter (fun z=>dueAt s z.toNat)=((liveV s).filter (dueAt s)).map Int.ofNat:=by
  rw[List.filter_map];rfl
theorem sweep_due (n:Nat) {s:Sta} (hw:StaW s):sweep_Due (n+15) s=some ((dueV s).map Int.ofNat):=by
  rw[sweep_Due_eq,stt_check n hw,obs,tfn]
  unfold dueV
  by_cases h:StaOk s
  case neg=>rw[chk_no h,if_neg h];rfl
  have hd:∀z∈(liveV s).map Int.ofNat,(fun y2:Int×Unit=>sweep_Due_1 (n+14) y2.1 s) (z,())=some (!dueAt s z.toNat):=fun z hz=>by
    obtain ⟨h0,y,hy,_⟩:=live_at hz
    exact sweep_due_1 (n+7) h0 hy
  have hL:((liveV s).map Int.ofNat).length≤1000000:=by have:=live_len s;have:=h.whole.len;simp;omega
  have e:liveR s=(liveV s).map Int.ofNat:=if_pos h.whole
  rw[chk_ok h,stt_live (n+6) hw,obs,e,delete_int (del:=fun y2:Int×Unit=>sweep_Due_1 (n+14) y2.1 s) (p:=fun z => !dueAt s z.toNat) hd (n+12) _ hL (fun _ hx=>hx),obs,if_pos h,←due_list]
  simp only[Bool.not_not]
theorem r21_due_l5 (n:Nat) (s:Sta) (L:List Int) (hL:L.length≤1000000) (hm:∀z∈L,0≤z∧∃y,s.2.2.2[z.toNat]? = some y∧LvX s y):∀(rest pre:List Int) (f:Nat) (out:List Int) (ix len:Int),L=pre++rest→ix=pre.length→len=L.length→rest.length<f→out.length≤pre.length →
    r21_Due_l5 (n+5) f (s,out,L,len,ix,())=some (.inl (out++rest.filter (fun z=>dueAt s z.toNat),())):=by
  intro rest
  induction rest with
  | nil =>
    intro pre f out ix len hl hi hn hf ho
    obtain ⟨f,rfl⟩:∃g,f=g+1:=⟨f-1,by simp at hf;omega⟩
    rw[r21_Due_l5_eq,decide_eq_false (idxe hl hi hn),tff];simp
  | cons z rest ih =>
    intro pre f out ix len hl hi hn hf ho
    obtain ⟨f,rfl⟩:∃g,f=g+1:=⟨f-1,by simp at hf;omega⟩
    obtain ⟨h0,y,hy,_⟩:=hm z (by rw[hl];simp)
    have hpl:pre.length≤L.length:=by rw[hl];simp
    rw[r21_Due_l5_eq,decide_eq_true (idx hl hi hn),tft,at_mid hl hi,obs,at_nn h0 hy,obs,r15_dead n,obs,idxw hl hi (show L.length≤1000000000000 by omega)]
    have e:dueAt s z.toNat=deadV s.1 y.2.1 s.2.1:=by unfold dueAt;rw[hy]
    rw[←e]
    cases hd:dueAt s z.toNat with
    | true =>
      rw[tft,tfd,if_pos (by omega),ih (pre++[z]) f (out++[z]) (ix+1) len (idxl hl) (idxs hi) hn (by simp at hf;omega) (by simp;omega),List.filter_cons_of_pos (p:=fun z:Int=>dueAt s z.toNat) hd];simp
    | false=>rw[tff,ih (pre++[z]) f out (ix+1) len (idxl hl) (idxs hi) hn (by simp at hf;omega) (by simp;omega),List.filter_cons_of_neg (p:=fun z:Int=>dueAt s z.toNat) (by simp[hd])]
theorem r21_due (n:Nat) {s:Sta} (hw:StaW s):r21_Due (n+10) s=some ((dueV s).map Int.ofNat):=by
  rw[r21_Due_eq,r17_check n hw,obs,tfn]
  unfold dueV
  by_cases h:StaOk s
  case neg=>rw[chk_no h,if_neg h];rfl
  have hL:((liveV s).map Int.ofNat).length≤1000000:=by have:=live_len s;have:=h.whole.len;simp;omega
  have e:liveR s=(liveV s).map Int.ofNat:=if_pos h.whole
  rw[chk_ok h,r17_live (n+2) hw,obs,e,r21_due_l5 (n+4) s _ hL (fun z hz=>live_at hz) _ [] loopFuel [] 0 _ rfl rfl rfl (by unfold loopFuel;omega) (by simp),obs,selim_inl,if_pos h,←due_list]
  rfl
end Go.Proofs.YtjeabebacegikaaGreatDoor

namespace Go.Plim
open Go.Flat Go.Proofs.YtjeabebacegikaaGreatDoor
set_option linter.unusedVariables false
set_option linter.unusedSimpArgs false
abbrev Cnt:=Int×(Int×(Int×(Int×(Int×(Int×(Int×Int))))))
abbrev inc1 (x:Int):Int:=IntKind.wrap .i64 (x+1)
noncomputable def cnt1 (s:Sta) (t:Cnt) (x:Ser):Cnt :=
  if x=ser0 then (t.1,(t.2.1,(inc1 t.2.2.1,t.2.2.2)))
  else if LvX s x then
    (inc1 t.1,(t.2.1,(t.2.2.1,(IntKind.wrap .i64 (t.2.2.2.1+(((List.length x.2.2.1.2.2):Nat):Int)),(IntKind.wrap .i64 (t.2.2.2.2.1+x.2.2.1.1),
      (IntKind.wrap .i64 (t.2.2.2.2.2.1+(((List.length (tall x.2.2.2.1.1)):Nat):Int)),(IntKind.wrap .i64 (t.2.2.2.2.2.2.1+(((List.length (tall x.2.2.2.1.2.1)):Nat):Int)),
        IntKind.wrap .i64 (t.2.2.2.2.2.2.2+(((List.length (tall x.2.2.2.1.2.2)):Nat):Int)))))))))
  else (t.1,(inc1 t.2.1,t.2.2))
def cnt0:Cnt:=(0,(0,(0,(0,(0,(0,(0,0)))))))
noncomputable def cntV (s:Sta):Cnt:=s.2.2.2.foldl (cnt1 s) cnt0
noncomputable def goes (s:Sta) (x:Ser):Bool:=decide (LvX s x)&&deadV s.1 x.2.1 s.2.1
noncomputable def due1 (s:Sta) (d:Int) (x:Ser):Int:=if goes s x=true then inc1 d else d
theorem range_filter {α:Type} (p:α→Bool):∀(l:List α),((List.range l.length).filter fun i=>match l[i]? with | some x=>p x | none=>false).length=l.countP p:=by
  intro l
  induction l with
  | nil=>rfl
  | cons x l ih =>
    rw[List.length_cons,List.range_succ_eq_map,List.filter_cons,List.countP_cons]
    have e:(((List.range l.length).map Nat.succ).filter fun i=>match (x::l)[i]? with | some x=>p x | none=>false).length=l.countP p:=by
      rw[List.filter_map,List.length_map];exact ih
    simp only[List.getElem?_cons_zero]
    by_cases hp:p x=true
    · rw[if_pos hp,if_pos hp,List.length_cons,e]
    · rw[if_neg hp,if_neg hp,e,Nat.add_zero]
theorem dueV_len {s:Sta} (h:StaOk s):(dueV s).length=s.2.2.2.countP (goes s):=by
  unfold dueV liveV
  rw[if_pos h,List.filter_filter,←range_filter]
  congr 1
  refine List.filter_congr fun i hi => ?_
  unfold lvAt dueAt goes
  cases s.2.2.2[i]? with
  | none=>rfl
  | some x=>simp only;rw[Bool.and_comm]
theorem due_num (s:Sta):∀(l:List Ser) (d:Int),0≤d→d+l.length≤1000000→l.foldl (due1 s) d=d+((l.countP (goes s):Nat):Int):=by
  intro l
  induction l with
  | nil=>intro d _ _;simp
  | cons x l ih =>
    intro d h0 h1
    simp only[List.length_cons] at h1
    simp only[List.foldl_cons,List.countP_cons]
    unfold due1
    split
    · rename_i h
      have e:inc1 d=d+1:=w64 (by omega) (by omega)
      have:=ih (inc1 d) (by omega) (by omega)
      unfold due1 at this
      rw[this,e];omega
    · have:=ih d h0 (by omega)
      unfold due1 at this
      rw[this];simp
noncomputable def nDue (s:Sta):Nat:=s.2.2.2.countP (goes s)
end Go.Plim

namespace Go.Proofs.YtjeabebacegikaaGreatDoor
open Go.Flat Go.Plim
set_option linter.unusedVariables false
set_option linter.unusedSimpArgs false
def mkS (t:Cnt) (d:Int):TStats:=(t.1,(t.2.1,(t.2.2.1,(t.2.2.2.1,(t.2.2.2.2.1,((t.2.2.2.2.2.1,(t.2.2.2.2.2.2.1,t.2.2.2.2.2.2.2)),d))))))
theorem mkS_zero:mkS cnt0 0=((0:Int),((0:Int),((0:Int),((0:Int),((0:Int),(((0:Int),((0:Int),(0:Int))),(0:Int))))))):=rfl
theorem stat_one_val (n:Nat) {s:Sta} {x:Ser} (h:SerOk s.1 x) (hl:LvX s x) (c:Cnt) (d:Int):stat_one (n+18) (mkS c d) s x=some (mkS (cnt1 s c x) (due1 s d x)):=by
  rw[stat_one_eq,tier_all n h.fold.t0,obs,tier_all n h.fold.t1,obs,tier_all n h.fold.t2,obs,series_dead (n+11),obs]
  have e1:cnt1 s c x=(inc1 c.1,(c.2.1,(c.2.2.1,(cnt1 s c x).2.2.2))):=by unfold cnt1;rw[if_neg hl.1,if_pos hl]
  have e2:due1 s d x=if deadV s.1 x.2.1 s.2.1=true then inc1 d else d:=by
    unfold due1 goes;rw[decide_eq_true hl,Bool.true_and]
  rw[e2]
  unfold cnt1
  rw[if_neg hl.1,if_pos hl,tif_ite]
  split<;>rfl
theorem empty_labs {s:Sta} (h:StaOk s) {i:Nat} {x:Ser} (hx:s.2.2.2[i]? = some x):((((List.length x.1):Nat):Int)=0)↔x=ser0:=by
  constructor
  · intro h0
    rcases h.right i x hx with k | ⟨k,_⟩
    · exact k
    · exfalso
      have:=k.lab.n0;omega
  · intro e;subst e;rfl
theorem lives_at {s:Sta} (h:StaOk s) {i:Nat} {x:Ser} (hx:s.2.2.2[i]? = some x):livesB s (i:Int)=decide (LvX s x):=by
  unfold livesB lvAt
  rw[Int.toNat_natCast,hx]
  by_cases hl:LvX s x
  · rw[decide_eq_true hl,decide_eq_true ⟨h.whole,by omega,decide_eq_true hl⟩]
  · rw[decide_eq_false hl]
    exact decide_eq_false fun k=>hl (of_decide_eq_true k.2.2)
theorem stat_of_l6 (n:Nat) {s:Sta} (hw:StaW s) (h:StaOk s) (z:TStats):∀(rest pre:List Ser) (f:Nat) (c:Cnt) (d i:Int),s.2.2.2=pre++rest→i=pre.length→rest.length<f →
    stat_Of_l6 (n+18) f (s,(z,(mkS c d,(s.2.2.2,((((List.length s.2.2.2):Nat):Int),(i,()))))))=some (.inl (z,(mkS (rest.foldl (cnt1 s) c) (rest.foldl (due1 s) d),()))):=by
  intro rest
  induction rest with
  | nil =>
    intro pre f c d i he hi hf
    obtain ⟨f,rfl⟩:∃g,f=g+1:=⟨f-1,by omega⟩
    rw[stat_Of_l6_eq]
    simp only[tfd]
    rw[if_neg (by rw[he];simp;omega)]
    rfl
  | cons x rest ih =>
    intro pre f c d i he hi hf
    obtain ⟨f,rfl⟩:∃g,f=g+1:=⟨f-1,by simp at hf;omega⟩
    simp only[List.length_cons] at hf
    have hx:s.2.2.2[pre.length]? = some x:=by rw[he];simp
    have hlen:=hw.len
    have hnext:IntKind.wrap .i64 (i+(1:Int))=((pre++[x]).length:Int):=by
      rw[he] at hlen
      simp only[List.length_append,List.length_cons] at hlen ⊢
      rw[w64 (by omega) (by omega)];simp;omega
    have go:=fun c d=>ih (pre++[x]) f c d (IntKind.wrap .i64 (i+(1:Int))) (by rw[he];simp) hnext (by omega)
    rw[stat_Of_l6_eq]
    simp only[tfd]
    rw[if_pos (by rw[he,hi];simp;omega),hi,at_el hx,obs]
    rw[hi] at go
    simp only[List.foldl_cons]
    by_cases hz:x=ser0
    · rw[if_pos ((empty_labs h hx).2 hz)]
      have e1:cnt1 s c x=(c.1,(c.2.1,(inc1 c.2.2.1,c.2.2.2))):=by unfold cnt1;rw[if_pos hz]
      have e2:due1 s d x=d:=by
        unfold due1 goes
        rw[decide_eq_false (fun k:LvX s x=>k.1 hz),Bool.false_and];rfl
      rw[e1,e2]
      exact go (c.1,(c.2.1,(inc1 c.2.2.1,c.2.2.2))) d
    · rw[if_neg (fun k=>hz ((empty_labs h hx).1 k)),stt_lives (n+10) hw,obs,lives_at h hx]
      by_cases hl:LvX s x
      · rw[decide_eq_true hl,tft,stat_one_val n (live_ok h (List.mem_of_getElem? hx) hl).1 hl,obs]
        exact go _ _
      · rw[decide_eq_false hl,tff]
        have e1:cnt1 s c x=(c.1,(inc1 c.2.1,c.2.2)):=by unfold cnt1;rw[if_neg hz,if_neg hl]
        have e2:due1 s d x=d:=by
          unfold due1 goes
          rw[decide_eq_false hl,Bool.false_and];rfl
        rw[e1,e2]
        exact go (c.1,(inc1 c.2.1,c.2.2)) d
noncomputable def statV (s:Sta):TStats×Int:=if StaOk s then (mkS (cntV s) ((nDue s:Nat):Int),0) else (mkS cnt0 0,2)
theorem due_fold {s:Sta} (h:StaOk s):s.2.2.2.foldl (due1 s) 0=((nDue s:Nat):Int):=by
  have:=h.whole.len
  rw[due_num s _ 0 (by omega) (by omega)]
  unfold nDue;omega
theorem stat_of (n:Nat) {s:Sta} (hw:StaW s):stat_Of (n+19) s=some (statV s):=by
  rw[stat_Of_eq,stt_check (n+4) hw,obs,tfn]
  unfold statV
  by_cases h:StaOk s
  case neg=>rw[chk_no h,if_neg h,if_neg h];rfl
  rw[chk_ok h,if_pos h]
  have:=stat_of_l6 n hw h (mkS cnt0 0) s.2.2.2 [] loopFuel cnt0 0 0 rfl rfl (by have:=h.whole.len;unfold loopFuel;omega)
  rw[mkS_zero] at this
  rw[this,obs,selim_inl,due_fold h]
  rfl
theorem r33_of_l5 (n:Nat) {s:Sta} (hw:StaW s) (h:StaOk s) (z:TStats) (d:Int):∀(rest pre:List Ser) (f:Nat) (c:Cnt) (i:Int),s.2.2.2=pre++rest→i=pre.length→rest.length<f →
    r33_Of_l5 (n+18) f (s,(z,(mkS c d,(s.2.2.2,((((List.length s.2.2.2):Nat):Int),(i,()))))))=some (.inl (z,(mkS (rest.foldl (cnt1 s) c) d,()))):=by
  intro rest
  induction rest with
  | nil =>
    intro pre f c i he hi hf
    obtain ⟨f,rfl⟩:∃g,f=g+1:=⟨f-1,by omega⟩
    rw[r33_Of_l5_eq]
    simp only[tfd]
    rw[if_neg (by rw[he];simp;omega)]
    rfl
  | cons x rest ih =>
    intro pre f c i he hi hf
    obtain ⟨f,rfl⟩:∃g,f=g+1:=⟨f-1,by simp at hf;omega⟩
    simp only[List.length_cons] at hf
    have hx:s.2.2.2[pre.length]? = some x:=by rw[he];simp
    have hlen:=hw.len
    have hnext:IntKind.wrap .i64 (i+(1:Int))=((pre++[x]).length:Int):=by
      rw[he] at hlen
      simp only[List.length_append,List.length_cons] at hlen ⊢
      rw[w64 (by omega) (by omega)];simp;omega
    have go:=fun c=>ih (pre++[x]) f c (IntKind.wrap .i64 (i+(1:Int))) (by rw[he];simp) hnext (by omega)
    rw[r33_Of_l5_eq]
    simp only[tfd]
    rw[if_pos (by rw[he,hi];simp;omega),hi,at_el hx,obs]
    rw[hi] at go
    simp only[List.foldl_cons]
    rw[r17_Lives_val (n+11) hw,obs,lives_at h hx]
    by_cases hl:LvX s x
    · have hok:=(live_ok h (List.mem_of_getElem? hx) hl).1
      rw[decide_eq_true hl,tft,r13_all (n+17) hok.fold.t0,obs,r13_all (n+17) hok.fold.t1,obs,r13_all (n+17) hok.fold.t2,obs]
      have:=go (cnt1 s c x)
      unfold cnt1 at this
      rw[if_neg hl.1,if_pos hl] at this
      unfold cnt1
      rw[if_neg hl.1,if_pos hl]
      exact this
    · rw[decide_eq_false hl,tff,r17_empty (n+14) (hw.ser x (List.mem_of_getElem? hx)).2,obs]
      by_cases hz:x=ser0
      · rw[decide_eq_true hz,tft]
        have e1:cnt1 s c x=(c.1,(c.2.1,(inc1 c.2.2.1,c.2.2.2))):=by unfold cnt1;rw[if_pos hz]
        rw[e1]
        exact go (c.1,(c.2.1,(inc1 c.2.2.1,c.2.2.2)))
      · rw[decide_eq_false hz,tff]
        have e1:cnt1 s c x=(c.1,(inc1 c.2.1,c.2.2)):=by unfold cnt1;rw[if_neg hz,if_neg hl]
        rw[e1]
        exact go (c.1,(inc1 c.2.1,c.2.2))
theorem r33_of (n:Nat) {s:Sta} (hw:StaW s):r33_Of (n+19) s=some (statV s):=by
  rw[r33_Of_eq,r17_check (n+9) hw,obs,tfn]
  unfold statV
  by_cases h:StaOk s
  case neg=>rw[chk_no h,if_neg h];rfl
  rw[chk_ok h,if_pos h,r21_due (n+8) hw,obs,List.length_map,dueV_len h]
  have:=r33_of_l5 n hw h (mkS cnt0 0) ((nDue s:Nat):Int) s.2.2.2 [] loopFuel cnt0 0 rfl rfl (by have:=h.whole.len;unfold loopFuel;omega)
  exact obind_of this _
end Go.Proofs.YtjeabebacegikaaGreatDoor

namespace Go.Plim
set_option linter.unusedVariables false
def tz:Nat→Nat→Nat
  | 0,_=>0
  | k+1,x=>if x % 2=1 then 0 else tz k (x / 2)+1
theorem tz_odd (k x:Nat) (h:x % 2=1):tz k x=0:=by cases k<;>simp[tz,h]
theorem tz_spec:∀(k x:Nat),0<x→x<2^k→tz k x<k∧x=2^tz k x*(x / 2^tz k x)∧(x / 2^tz k x) % 2=1:=by
  intro k
  induction k with
  | zero=>intro x h0 h1;simp at h1;omega
  | succ k ih =>
    intro x h0 h1
    by_cases h:x % 2=1
    · rw[tz_odd (k+1) x h]
      simp[h]
    · have e:tz (k+1) x=tz k (x / 2)+1:=by simp[tz,h]
      rw[Nat.pow_succ] at h1
      obtain ⟨a1,a2,a3⟩:=ih (x / 2) (by omega) (by omega)
      rw[e,Nat.pow_succ,Nat.mul_comm (2^tz k (x / 2)) 2,←Nat.div_div_eq_div_mul]
      refine ⟨by omega,?_,a3⟩
      rw[Nat.mul_assoc,←a2]
      omega
def bl:Nat→Nat→Nat
  | 0,_=>0
  | k+1,x=>if x=0 then 0 else bl k (x / 2)+1
theorem bl_zero (k:Nat):bl k 0=0:=by cases k<;>simp[bl]
theorem bl_spec:∀(k x:Nat),x<2^k→x<2^bl k x∧(0<x→0<bl k x∧2^(bl k x-1)≤x)∧bl k x≤k:=by
  intro k
  induction k with
  | zero=>intro x h;simp[bl] at *;omega
  | succ k ih =>
    intro x h
    by_cases h0:x=0
    · subst h0;rw[bl_zero];simp
    · have e:bl (k+1) x=bl k (x / 2)+1:=by simp[bl,h0]
      rw[Nat.pow_succ] at h
      obtain ⟨a1,a2,a3⟩:=ih (x / 2) (by omega)
      rw[e]
      refine ⟨by rw[Nat.pow_succ];omega,fun _=>⟨by omega,?_⟩,by omega⟩
      rw[Nat.add_sub_cancel]
      by_cases h1:x / 2=0
      · rw[h1,bl_zero];simp;omega
      · obtain ⟨b1,b2⟩:=a2 (by omega)
        have:2^bl k (x / 2)=2^(bl k (x / 2)-1)*2:=by rw[←Nat.pow_succ];congr 1;omega
        omega
theorem bl_unique {k x b:Nat} (h:x<2^k) (h0:0<x) (h1:2^b≤x) (h2:x<2^(b+1)):bl k x=b+1:=by
  obtain ⟨a1,a2,_⟩:=bl_spec k x h
  obtain ⟨c1,c2⟩:=a2 h0
  have d1:b<bl k x:=by
    rcases Nat.lt_or_ge b (bl k x) with q | q
    · exact q
    · have:=Nat.pow_le_pow_right (show 0<2 by decide) q;omega
  have d2:bl k x-1<b+1:=by
    rcases Nat.lt_or_ge (bl k x-1) (b+1) with q | q
    · exact q
    · have:=Nat.pow_le_pow_right (show 0<2 by decide) q;omega
  omega
theorem div_step {A D L i q r:Nat} (hD:0<D) (h:A / 2^(i+1)=D*q+r) (hr:r<D) :
    (D≤2*r+A / 2^i % 2→A / 2^i=D*(2*q+1)+(2*r+A / 2^i % 2-D)∧2*r+A / 2^i % 2-D<D) ∧
    (2*r+A / 2^i % 2<D→A / 2^i=D*(2*q)+(2*r+A / 2^i % 2)):=by
  rw[Nat.pow_succ,←Nat.div_div_eq_div_mul] at h
  have h1:=Nat.div_add_mod (A / 2^i) 2
  rw[h] at h1
  have e1:2*(D*q+r)=D*(2*q)+2*r:=by rw[Nat.mul_add,Nat.mul_left_comm]
  have e2:D*(2*q+1)=D*(2*q)+D:=by rw[Nat.mul_add,Nat.mul_one]
  generalize D*(2*q)=Z at *
  constructor
  · intro k;rw[e2];omega
  · intro k;omega
end Go.Plim

namespace Go.Plim
set_option linter.unusedVariables false
def ndF:Nat→Nat→Nat
  | 0,_=>1
  | f+1,u=>if u<10 then 1 else ndF f (u / 10)+1
def ndg (u:Nat):Nat:=ndF 64 u
def dgs:Nat→Nat→List Int
  | _,0=>[]
  | u,k+1=>dgs (u / 10) k++[((48+u % 10:Nat):Int)]
def decI (u:Nat):List Int:=dgs u (ndg u)
def itoI (z:Int):List Int:=if z<0 then 45::decI z.natAbs else decI z.toNat
theorem dgs_len:∀(k u:Nat),(dgs u k).length=k:=by
  intro k
  induction k with
  | zero=>intro u;rfl
  | succ k ih=>intro u;simp[dgs,ih]
theorem dgs_get:∀(k u j:Nat),j<k→(dgs u k)[j]? = some ((48+u / 10^(k-1-j) % 10:Nat):Int):=by
  intro k
  induction k with
  | zero=>intro u j h;omega
  | succ k ih =>
    intro u j h
    simp only[dgs]
    by_cases hj:j<k
    · rw[List.getElem?_append_left (by rw[dgs_len];exact hj),ih _ _ hj,Nat.div_div_eq_div_mul]
      have:k+1-1-j=k-1-j+1:=by omega
      rw[this,Nat.pow_succ,Nat.mul_comm]
    · have:j=k:=by omega
      subst this
      rw[List.getElem?_append_right (by rw[dgs_len];exact Nat.le_refl _),dgs_len]
      simp
theorem dgs_of {l:List Int} {u k:Nat} (hl:l.length=k) (h:∀j,j<k→l[j]? = some ((48+u / 10^(k-1-j) % 10:Nat):Int)):l=dgs u k:=by
  apply List.ext_getElem?
  intro j
  by_cases hj:j<k
  · rw[h j hj,dgs_get k u j hj]
  · rw[List.getElem?_eq_none (by omega),List.getElem?_eq_none (by rw[dgs_len];omega)]
theorem dgs_range:∀(k u:Nat),∀x∈dgs u k,48≤x∧x≤57:=by
  intro k
  induction k with
  | zero=>intro u x hx;cases hx
  | succ k ih =>
    intro u x hx
    simp only[dgs,List.mem_append,List.mem_singleton] at hx
    rcases hx with hx | hx
    · exact ih _ x hx
    · subst hx;omega
theorem ndF_of:∀(d f u:Nat),d<f→(0<d→10^d≤u)→u<10^(d+1)→ndF f u=d+1:=by
  intro d
  induction d with
  | zero =>
    intro f u hf _ h
    obtain ⟨g,rfl⟩:∃g,f=g+1:=⟨f-1,by omega⟩
    simp only[ndF]
    rw[if_pos (by simpa using h)]
  | succ d ih =>
    intro f u hf h1 h2
    obtain ⟨g,rfl⟩:∃g,f=g+1:=⟨f-1,by omega⟩
    have h1:=h1 (by omega)
    have hp:1≤10^d:=Nat.one_le_pow _ _ (by omega)
    have e:10^(d+1)=10*10^d:=by rw[Nat.pow_succ,Nat.mul_comm]
    have e2:10^(d+1+1)=10*10^(d+1):=by rw[Nat.pow_succ,Nat.mul_comm]
    simp only[ndF]
    rw[if_neg (by omega),ih g (u / 10) (by omega) (fun _=>by rw[Nat.le_div_iff_mul_le (by omega)];omega) (by rw[Nat.div_lt_iff_lt_mul (by omega)];omega)]
theorem ndg_of {d u:Nat} (hd:d<64) (h1:0<d→10^d≤u) (h2:u<10^(d+1)):ndg u=d+1:=ndF_of d 64 u hd h1 h2
def lgt (b:Nat):Nat:=b*78913 / 262144
theorem lgt_all:((List.range 65).all fun b=>decide (b=0)||(decide (2^b≤10^(lgt b+1))&&(decide (lgt b=0)||decide (10^(lgt b-1)≤2^(b-1)))))=true:=by decide +kernel
theorem lgt_at {b:Nat} (h:b≤64) (h0:0<b):2^b≤10^(lgt b+1)∧(0<lgt b→10^(lgt b-1)≤2^(b-1)):=by
  have:=List.all_eq_true.1 lgt_all b (List.mem_range.2 (by omega))
  simp only[Bool.or_eq_true,Bool.and_eq_true,decide_eq_true_eq] at this
  rcases this with h1 | ⟨h1,h2⟩
  · omega
  · exact ⟨h1,fun h3=>h2.resolve_left (by omega)⟩
theorem lgt_lt {b:Nat} (h:b≤64):lgt b<20:=by
  unfold lgt;omega
theorem ndg_bl {u:Nat} (h0:0<u) (h:u<18446744073709551616):ndg u=lgt (bl 64 u)+if 10^lgt (bl 64 u)≤u then 1 else 0:=by
  obtain ⟨b1,b2,b3⟩:=bl_spec 64 u h
  obtain ⟨b2,b4⟩:=b2 h0
  obtain ⟨l1,l2⟩:=lgt_at b3 b2
  have l3:=lgt_lt b3
  split
  · rename_i hle
    exact ndg_of (by omega) (fun _=>hle) (by omega)
  · rename_i hle
    have hpos:0<lgt (bl 64 u):=by
      rcases Nat.eq_zero_or_pos (lgt (bl 64 u)) with e | e
      · rw[e] at hle;simp at hle;omega
      · exact e
    have:=l2 hpos
    have e:lgt (bl 64 u)-1+1=lgt (bl 64 u):=by omega
    have:=ndg_of (d:=lgt (bl 64 u)-1) (u:=u) (by omega) (fun _=>by omega) (by rw[e];omega)
    omega
theorem ndg_small {u:Nat} (h:u<10):ndg u=1:=ndg_of (by omega) (fun h=>by omega) (by simpa using h)
theorem ndF_up:∀(f u:Nat),u<10^(f+1)→∀g,f≤g→ndF g u=ndF f u:=by
  intro f
  induction f with
  | zero=>intro u h g _;cases g with
    | zero=>rfl
    | succ g=>simp only[ndF];rw[if_pos (by simpa using h)]
  | succ f ih =>
    intro u h g hg
    obtain ⟨k,rfl⟩:∃k,g=k+1:=⟨g-1,by omega⟩
    simp only[ndF]
    split
    · rfl
    · rw[ih (u / 10) (by rw[Nat.div_lt_iff_lt_mul (by omega)];rw[Nat.pow_succ] at h;exact h) k (by omega)]
theorem ndg_step {u:Nat} (h:10≤u) (hu:u<10^63):ndg u=ndg (u / 10)+1:=by
  unfold ndg
  conv=>lhs;unfold ndF
  rw[if_neg (by omega),ndF_up 63 (u / 10) (Nat.lt_of_le_of_lt (Nat.div_le_self _ _) (Nat.lt_of_lt_of_le hu (Nat.pow_le_pow_right (by omega) (by omega)))) 64 (by omega)]
theorem decI_small {u:Nat} (h:u<10):decI u=[((48+u:Nat):Int)]:=by
  unfold decI;rw[ndg_small h];simp only[dgs,List.nil_append];rw[Nat.mod_eq_of_lt h]
theorem decI_step {u:Nat} (h:10≤u) (hu:u<10^63):decI u=decI (u / 10)++[((48+u % 10:Nat):Int)]:=by
  unfold decI;rw[ndg_step h hu];rfl
theorem ndg_le {u:Nat} (h:u<18446744073709551616):ndg u≤20:=by
  rcases Nat.eq_zero_or_pos u with e | e
  · subst e;decide
  · rw[ndg_bl e h]
    have:=lgt_lt (bl_spec 64 u h).2.2
    split<;>omega
theorem ndg_hi {u:Nat} (h:u<18446744073709551616):u<10^ndg u:=by
  rcases Nat.eq_zero_or_pos u with e | e
  · subst e;exact Nat.pow_pos (by omega)
  · obtain ⟨b1,b2,b3⟩:=bl_spec 64 u h
    obtain ⟨b2,b4⟩:=b2 e
    obtain ⟨l1,l2⟩:=lgt_at b3 b2
    rw[ndg_bl e h]
    split
    · omega
    · rename_i hle;simpa using hle
theorem decI_range (u:Nat):∀x∈decI u,48≤x∧x≤57:=dgs_range _ _
end Go.Plim

namespace Go.Plim
set_option linter.unusedVariables false
def ofN (x:Nat):Wd:=(((x / 18446744073709551616:Nat):Int),((x % 18446744073709551616:Nat):Int))
theorem mkW_nat (x:Nat):mkW (x:Int)=ofN x:=by
  unfold mkW ofN;rw[Prod.mk.injEq];constructor<;>omega
theorem wv_ofN (x:Nat):wv (ofN x)=x:=by rw[←mkW_nat,wv_mkW]
theorem ofN_ok {x:Nat} (h:x<340282366920938463463374607431768211456):WdOk (ofN x):=by rw[←mkW_nat];exact mkW_ok (by omega) (by omega)
theorem ofN_zero (x:Nat):(decide ((ofN x).1=(0:Int))&&decide ((ofN x).2=(0:Int)))=decide (x=0):=by
  rw[←Bool.decide_and]
  apply decide_eq_decide.2
  unfold ofN
  simp only
  omega
theorem or_pow {q k:Nat} (h:2^(k+1) ∣ q):q ||| 2^k=q+2^k:=by
  obtain ⟨m,rfl⟩:=h
  exact (Nat.two_pow_add_eq_or_of_lt (i:=k+1) (b:=2^k) (by rw[Nat.pow_succ];have:=Nat.two_pow_pos k;omega) m).symm
end Go.Plim

namespace Go.Plim
set_option linter.unusedVariables false
theorem bl_shift {k x s:Nat} (h:x<2^k) (hs:2^s≤x):bl k x=s+bl k (x / 2^s):=by
  have hp:=Nat.two_pow_pos s
  have h0:0<x / 2^s:=Nat.div_pos hs hp
  have h1:x / 2^s<2^k:=Nat.lt_of_le_of_lt (Nat.div_le_self _ _) h
  obtain ⟨a1,a2,a3⟩:=bl_spec k (x / 2^s) h1
  obtain ⟨b1,b2⟩:=a2 h0
  obtain ⟨c,hc⟩:∃c,bl k (x / 2^s)=c+1:=⟨bl k (x / 2^s)-1,by omega⟩
  rw[hc] at a1 b2 ⊢
  rw[Nat.add_sub_cancel] at b2
  rw[←Nat.add_assoc]
  refine bl_unique h (by omega) ?_ ?_
  · rw[Nat.pow_add,Nat.mul_comm]
    exact (Nat.le_div_iff_mul_le hp).1 b2
  · rw[Nat.add_assoc,Nat.pow_add,Nat.mul_comm]
    exact (Nat.div_lt_iff_lt_mul hp).1 a1
def byt (v j:Nat):Nat:=v / 256^j % 256
theorem byt_or {v i:Nat} (h:2^(i+1) ∣ v) (j:Nat):byt (v+2^i) j=if i / 8=j then byt v j ||| 2^(i % 8) else byt v j:=by
  unfold byt
  have e:(256:Nat)^j=2^(8*j):=by rw[Nat.pow_mul]
  rw[←or_pow h,e,Nat.or_div_two_pow,show (256:Nat)=2^8 from rfl,Nat.or_mod_two_pow]
  have e2:2^i / 2^(8*j) % 2^8=if i / 8=j then 2^(i % 8) else 0:=by
    rcases Nat.lt_or_ge i (8*j) with q | q
    · rw[Nat.div_eq_of_lt (Nat.pow_lt_pow_right (by decide) q),if_neg (by omega)]
    · rw[Nat.pow_div q (by decide)]
      split
      · rw[show i-8*j=i % 8 by omega]
        exact Nat.mod_eq_of_lt (Nat.pow_lt_pow_right (by decide) (Nat.mod_lt _ (by decide)))
      · obtain ⟨c,hc⟩:∃c,i-8*j=8+c:=⟨i-8*j-8,by omega⟩
        rw[hc,Nat.pow_add,Nat.mul_mod_right]
  rw[e2]
  split
  · rfl
  · rw[Nat.or_zero]
theorem byt_lt (v j:Nat):byt v j<256:=Nat.mod_lt _ (by decide)
theorem bit_byt (v i:Nat):byt v (i / 8) / 2^(i % 8) % 2=v / 2^i % 2:=by
  unfold byt
  have e:(256:Nat)^(i / 8)=2^(8*(i / 8)):=by rw[Nat.pow_mul]
  obtain ⟨c,hc⟩:∃c,(256:Nat)=2^(i % 8)*(2*2^c):=⟨7-i % 8,by rw[←Nat.pow_succ',←Nat.pow_add,show i % 8+(7-i % 8).succ=8 by have:=Nat.mod_lt i (show 0<8 by decide);omega]⟩
  rw[e]
  generalize hw:v / 2^(8*(i / 8))=w
  have e1:v / 2^i=w / 2^(i % 8):=by
    rw[←hw,Nat.div_div_eq_div_mul,←Nat.pow_add,show 8*(i / 8)+i % 8=i by omega]
  rw[e1]
  conv=>lhs;rw[hc]
  rw[Nat.mod_mul_right_div_self,Nat.mod_mul_right_mod]
end Go.Plim

namespace Go.Proofs.YtjeabebacegikaaGreatDoor
open Go.Flat Go.Plim
set_option linter.unusedVariables false
set_option linter.unusedSimpArgs false
theorem shrN (x k:Nat) (hk:k≤64):shrI .u64 (x:Int) (k:Int)=((x / 2^k:Nat):Int):=by
  rw[shr_nat _ _ hk];simp
end Go.Proofs.YtjeabebacegikaaGreatDoor
namespace Go.Proofs.YtjeabebacegikaaGreatDoor
open Go.Flat Go.Plim
set_option linter.unusedVariables false
def lenT:List UInt8 :=
  bs_2753755
theorem len64_tree (n:Nat) (x:Int):math_bits_Len64 (n+1) x =
  tif ((decide ((4294967296:Int)≤x))) (
  tif ((decide ((65536:Int)≤(shrI .u64 x (32:Int))))) (
  tif ((decide ((256:Int)≤(shrI .u64 (shrI .u64 x (32:Int)) (16:Int))))) (
  obind (at? lenT (IntKind.wrap .u8 (shrI .u64 (shrI .u64 (shrI .u64 x (32:Int)) (16:Int)) (8:Int)))) fun r0 =>
  some (IntKind.wrap .i64 ((56:Int)+(IntKind.wrap .i64 (((UInt8.toNat r0):Nat):Int))))) (
  obind (at? lenT (IntKind.wrap .u8 (shrI .u64 (shrI .u64 x (32:Int)) (16:Int)))) fun r1 =>
  some (IntKind.wrap .i64 ((48:Int)+(IntKind.wrap .i64 (((UInt8.toNat r1):Nat):Int)))))) (
  tif ((decide ((256:Int)≤(shrI .u64 x (32:Int))))) (
  obind (at? lenT (IntKind.wrap .u8 (shrI .u64 (shrI .u64 x (32:Int)) (8:Int)))) fun r2 =>
  some (IntKind.wrap .i64 ((40:Int)+(IntKind.wrap .i64 (((UInt8.toNat r2):Nat):Int))))) (
  obind (at? lenT (IntKind.wrap .u8 (shrI .u64 x (32:Int)))) fun r3 =>
  some (IntKind.wrap .i64 ((32:Int)+(IntKind.wrap .i64 (((UInt8.toNat r3):Nat):Int))))))) (
  tif ((decide ((65536:Int)≤x))) (
  tif ((decide ((256:Int)≤(shrI .u64 x (16:Int))))) (
  obind (at? lenT (IntKind.wrap .u8 (shrI .u64 (shrI .u64 x (16:Int)) (8:Int)))) fun r4 =>
  some (IntKind.wrap .i64 ((24:Int)+(IntKind.wrap .i64 (((UInt8.toNat r4):Nat):Int))))) (
  obind (at? lenT (IntKind.wrap .u8 (shrI .u64 x (16:Int)))) fun r5 =>
  some (IntKind.wrap .i64 ((16:Int)+(IntKind.wrap .i64 (((UInt8.toNat r5):Nat):Int)))))) (
  tif ((decide ((256:Int)≤x))) (
  obind (at? lenT (IntKind.wrap .u8 (shrI .u64 x (8:Int)))) fun r6 =>
  some (IntKind.wrap .i64 ((8:Int)+(IntKind.wrap .i64 (((UInt8.toNat r6):Nat):Int))))) (
  obind (at? lenT (IntKind.wrap .u8 x)) fun r7 =>
  some (IntKind.wrap .i64 ((0:Int)+(IntKind.wrap .i64 (((UInt8.toNat r7):Nat):Int))))))):=math_bits_Len64_eq n x
theorem lenT_all:((List.range 256).all fun z=>match lenT[z]? with | some r=>decide (r.toNat=bl 64 z) | none=>false)=true:=by decide +kernel
end Go.Proofs.YtjeabebacegikaaGreatDoor
namespace Go.Proofs.YtjeabebacegikaaGreatDoor
open Go.Flat Go.Plim
set_option linter.unusedVariables false
set_option linter.unusedSimpArgs false
theorem lenT_at {z:Nat} (h:z<256):∃r,at? lenT (z:Int)=some r∧r.toNat=bl 64 z:=by
  have h1:=List.all_eq_true.1 lenT_all z (List.mem_range.2 h)
  split at h1
  · rename_i r hr
    refine ⟨r,?_,of_decide_eq_true h1⟩
    unfold at?
    rw[decide_eq_true (by omega)]
    exact hr
  · cases h1
theorem len_leaf {x s K:Nat} {I S:Int} (hK:K=2^s) (hI:I=((x / K:Nat):Int)) (hS:S=s) (h2:x / K<256) (h1:K≤x∨s=0) (hx:x<18446744073709551616) (hs:s≤56) :
    (obind (at? lenT (IntKind.wrap .u8 I)) fun r=>some (IntKind.wrap .i64 (S+IntKind.wrap .i64 (((UInt8.toNat r):Nat):Int))))=some ((bl 64 x:Nat):Int):=by
  obtain ⟨r,hr,hb⟩:=lenT_at h2
  have hle:=(bl_spec 64 (x / K) (Nat.lt_of_le_of_lt (Nat.div_le_self _ _) hx)).2.2
  have e:bl 64 x=s+bl 64 (x / K):=by
    rcases h1 with h1 | rfl
    · rw[hK] at h1 ⊢
      exact bl_shift hx h1
    · subst hK;simp
  rw[hI,e]
  generalize x / K=z at *
  rw[wu8 (by omega) (by omega),hr,obs,hb,w64 (x:=((bl 64 z:Nat):Int)) (by omega) (by omega),hS,w64 (by omega) (by omega)]
  congr 1
theorem len64_val (n:Nat) {x:Nat} (h:x<18446744073709551616):math_bits_Len64 (n+1) (x:Int)=some ((bl 64 x:Nat):Int):=by
  have s32:∀z:Nat,shrI .u64 (z:Int) (32:Int)=((z / 4294967296:Nat):Int):=fun z=>shrN z 32 (by decide)
  have s16:∀z:Nat,shrI .u64 (z:Int) (16:Int)=((z / 65536:Nat):Int):=fun z=>shrN z 16 (by decide)
  have s8:∀z:Nat,shrI .u64 (z:Int) (8:Int)=((z / 256:Nat):Int):=fun z=>shrN z 8 (by decide)
  have h':=h
  rw[len64_tree]
  simp only[s32,s16,s8,tfd]
  by_cases c5:4294967296≤x
  · rw[if_pos (by omega)]
    by_cases c4:65536≤x / 4294967296
    · rw[if_pos (by omega)]
      by_cases c3:256≤x / 4294967296 / 65536
      · rw[if_pos (by omega)]
        exact len_leaf (s:=56) (K:=72057594037927936) rfl (by omega) rfl (by omega) (.inl (by omega)) h (by decide)
      · rw[if_neg (by omega)]
        exact len_leaf (s:=48) (K:=281474976710656) rfl (by omega) rfl (by omega) (.inl (by omega)) h (by decide)
    · rw[if_neg (by omega)]
      by_cases c3:256≤x / 4294967296
      · rw[if_pos (by omega)]
        exact len_leaf (s:=40) (K:=1099511627776) rfl (by omega) rfl (by omega) (.inl (by omega)) h (by decide)
      · rw[if_neg (by omega)]
        exact len_leaf (s:=32) (K:=4294967296) rfl (by omega) rfl (by omega) (.inl (by omega)) h (by decide)
  · rw[if_neg (by omega)]
    by_cases c4:65536≤x
    · rw[if_pos (by omega)]
      by_cases c3:256≤x / 65536
      · rw[if_pos (by omega)]
        exact len_leaf (s:=24) (K:=16777216) rfl (by omega) rfl (by omega) (.inl (by omega)) h (by decide)
      · rw[if_neg (by omega)]
        exact len_leaf (s:=16) (K:=65536) rfl (by omega) rfl (by omega) (.inl (by omega)) h (by decide)
    · rw[if_neg (by omega)]
      by_cases c3:256≤x
      · rw[if_pos (by omega)]
        exact len_leaf (s:=8) (K:=256) rfl (by omega) rfl (by omega) (.inl (by omega)) h (by decide)
      · rw[if_neg (by omega)]
        exact len_leaf (s:=0) (K:=1) rfl (by omega) rfl (by omega) (.inr rfl) h (by decide)
end Go.Proofs.YtjeabebacegikaaGreatDoor
