/-
 Plain proofs about the functions of this seat, part 3 of 3.
-/
import Derived.Test.YtfibfcjepngbmaaGreatDoorQ2
import Derived.Test.YtfibfcjepngbmaaGreatDoorTr
namespace Go.Proofs.YtfibfcjepngbmaaGreatDoor
open Go.Flat Go.Plim
set_option linter.unusedVariables false
set_option linter.unusedSimpArgs false
theorem m1t (n:Nat) (s:List a0z) (h:s.length≤1000000):k0e (n+1) s=some s:=by
 rw[y0p,decide_eq_true (show (0+s.length)*56≤140737488355328 by omega)];simp only[tft,List.nil_append];by_cases h0:s.length=0
 ·rw[decide_eq_true h0,tft,List.length_eq_zero_iff.1 h0,a1e]
 ·rw[decide_eq_false h0,tff]
theorem a2v {α:Type} (A cur rest:List α):List.drop (Int.toNat ((A.length:Nat):Int)) (List.take (Int.toNat (((A++cur).length:Nat):Int)) (A++cur++rest))=cur:=by
 rw[Int.toNat_natCast,Int.toNat_natCast,List.take_left,List.drop_left]
theorem d2f (l:List a0z) (k:List Lab):(mgetI .str .i64 (valM keyB (cntK l) (firsts l)) (keyB k)).1=cntK l k:=by
 rw[mgetI_val keyB q0o];by_cases h:k∈firsts l
 ·rw[if_pos h]
 ·rw[if_neg h,cntK_pos.2 h]
theorem d2e (l:List a0z) (x:a0z):mput .str (.int .i64) (valM keyB (cntK l) (firsts l)) (keyB x.1) (cntK l x.1+1)=valM keyB (cntK (l++[x])) (firsts (l++[x])):=by
 rw[mput_val keyB q0o (f:=cntK l) (g:=cntK (l++[x])) (k:=x.1) (nodup_firsts l) (by rw[cntK_snoc,if_pos rfl]) (fun j _ hj=>by rw[cntK_snoc,if_neg fun e=>hj e.symm]),firsts_snoc]
theorem split_l8 (n:Nat) {rows:List a0z} {N:Int} (hN:1≤N) (hs:∀x∈rows,r0v x.1) (hL:rows.length≤1000000):∀(rest A cur:List a0z) (out:List (List a0z)) (f:Nat) (i:Int),rows=A++cur++rest→i=((A++cur).length:Nat)→rest.length<f →
  ((firsts cur).length:Int)≤N→out.length+cur.length+rest.length≤1000000 →
  ∃out' A' cur',c0f (n+7) f (N,rows,out,valM keyB (cntK cur) (firsts cur),(A.length:Int),rows,(rows.length:Int),i,())=some (.inl (rows,(out',((A'.length:Int),()))))∧rows=A'++cur' ∧
   splitV N.toNat out cur rest=(if cur'=[] then out' else out'++[cur'])∧out'.length≤1000000:=by
 intro rest;induction rest with
 | nil =>
  intro A cur out f i hl hi hf hc ho;obtain ⟨f,rfl⟩:∃g,f=g+1:=⟨f-1,by simp at hf;omega⟩;refine ⟨out,A,cur,?_,by rw[hl,List.append_nil],splitV_nil _ _ _,by simp at ho;omega⟩;rw[m0b];simp only[tfd,if_neg (idxe hl hi rfl),tft]
 | cons x rest ih =>
  intro A cur out f i hl hi hf hc ho;obtain ⟨f,rfl⟩:∃g,f=g+1:=⟨f-1,by simp at hf;omega⟩;have hlen:=congrArg List.length hl;simp at hlen ho;have hic:i=(A.length:Int)+cur.length:=by rw[hi];simp
  have hcl:=cntK_le cur x.1;rw[m0b,decide_eq_true (idx hl hi rfl),tft,b0s hl hi,obs,n0u n (hs x (by rw[hl];simp)),obs,d2f,valM_len];rw[w64 (x:=cntK cur x.1+1) (by omega) (by omega),w64 (x:=i+1) (by omega) (by omega),d2e];simp only[Bool.and_self,tft,tfd];have go:¬((firsts cur).length=N.toNat∧x.1 ∉ firsts cur)→∃out' A' cur',c0f (n+7) f (N,rows,out,valM keyB (cntK (cur++[x])) (firsts (cur++[x])),(A.length:Int),rows,(rows.length:Int),i+1,())=some (.inl (rows,(out',((A'.length:Int),()))))∧rows=A'++cur' ∧
    splitV N.toNat out cur (x::rest)=(if cur'=[] then out' else out'++[cur'])∧out'.length≤1000000:=by
   intro h;rw[splitV_go (by omega) h];have:=firsts_go (n:=N.toNat) (by omega) h;exact ih A (cur++[x]) out f (i+1) (by rw[hl];simp) (by rw[hi];simp;omega) (by simp at hf;omega) (by omega) (by simp;omega)
  by_cases h1:(((firsts cur).length:Nat):Int)=N
  case neg =>
   rw[if_neg h1];exact go fun k=>h1 (by have:=k.1;omega)
  rw[if_pos h1];by_cases h2:cntK cur x.1=0
  case neg =>
   rw[if_neg h2];exact go fun k=>h2 (cntK_pos.2 k.2)
  have hx:=cntK_pos.1 h2;have hcp:0<cur.length:=by
   have:=firsts_len cur;omega
  rw[if_pos h2,if_pos (by omega),if_pos (by omega),g0c,if_pos (by simp only[Bool.and_eq_true,decide_eq_true_eq];omega),splitV_cut (by omega) hx];have hm:List.drop (Int.toNat ((A.length:Nat):Int)) (List.take (Int.toNat i) rows)=cur:=by rw[hi,hl];exact a2v A cur (x::rest)
  rw[hm,m1t (n+5) cur (by omega),obs,if_pos (by omega)];have e0:mput .str (.int .i64) ([]:List (List UInt8×Int)) (keyB x.1) (IntKind.wrap .i64 ((mgetI .str .i64 ([]:List (List UInt8×Int)) (keyB x.1)).1+1))=valM keyB (cntK [x]) (firsts [x]):=by
   have a:=d2f [] x.1;have b:=d2e [] x
   change (mgetI .str .i64 ([]:List (List UInt8×Int)) (keyB x.1)).1=_ at a
   change mput .str (.int .i64) ([]:List (List UInt8×Int)) (keyB x.1) _=_ at b
   rw[a];have h0:cntK ([]:List a0z) x.1=0:=rfl;rw[h0] at b ⊢;rw[w64 (by decide) (by decide)];exact b
  rw[e0];have:=ih (A++cur) [x] (out++[cur]) f (i+1) (by rw[hl];simp) (by rw[hi];simp;omega) (by simp at hf;omega) (by rw[firsts_one];simp;omega) (by simp;omega);rw[←hi] at this;exact this
def splitN (N:Int) (rows:List a0z):List (List a0z):=if N<1 then [] else splitV N.toNat [] [] rows
theorem tail_of {α:Type} (A cur:List α):List.drop (Int.toNat ((A.length:Nat):Int)) (List.take (Int.toNat (((A++cur).length:Nat):Int)) (A++cur))=cur:=by
 rw[Int.toNat_natCast,Int.toNat_natCast,List.take_length,List.drop_left]
theorem r1c (n:Nat) (N:Int) {rows:List a0z} (hs:∀x∈rows,r0v x.1) (hL:rows.length≤1000000):e0c (n+8) N rows=some (splitN N rows):=by
 rw[show n+8=(n+6)+2 by omega,c1j];unfold splitN;simp only[Bool.and_self,tft,tfd];by_cases h1:N<1
 ·rw[if_pos h1,if_pos h1]
 rw[if_neg h1,if_neg h1];obtain ⟨out',A',cur',e1,e2,e3,e4⟩:=split_l8 n (N:=N) (by omega) hs hL rows [] [] [] a0b 0 rfl rfl (by unfold a0b;omega) (by simp[firsts];omega) (by simp;omega)
 change a0a (c0f (n+7) a0b (N,rows,[],valM keyB (cntK ([]:List a0z)) (firsts ([]:List a0z)),((([]:List a0z).length:Nat):Int),rows,(rows.length:Int),0,())) _=_
 have hlen:=congrArg List.length e2;simp at hlen;rw[e1,obs,b0b,e3];dsimp only;by_cases h2:cur'=[]
 ·subst h2;rw[if_neg (by simp at hlen;omega),if_pos rfl]
 ·have hp:=List.length_pos_iff.2 h2;have hm:List.drop (Int.toNat ((A'.length:Nat):Int)) (List.take (Int.toNat ((rows.length:Nat):Int)) rows)=cur':=by rw[e2];exact tail_of A' cur'
  rw[if_pos (by omega),if_pos (by omega),g0c,if_pos (by simp only[Bool.and_eq_true,decide_eq_true_eq];omega),hm,m1t (n+5) cur' (by omega),obs,if_pos (by omega),if_neg h2]
theorem many_l3 (n:Nat) {rows:List a0z} (hl9:∀x∈rows,x.1.length≤9223372036854775807) (hL:rows.length≤1000000):∀(rest pre:List a0z) (f:Nat) (i:Int),rows=pre++rest→i=pre.length→rest.length<f →
  g0x (n+2) f (rows,((firsts pre).length:Int),rows,(rows.length:Int),i,())=some (.inl (((firsts rows).length:Int),())):=by
 intro rest;induction rest with
 | nil =>
  intro pre f i hl hi hf;obtain ⟨f,rfl⟩:∃g,f=g+1:=⟨f-1,by simp at hf;omega⟩;rw[r0m];simp only[tfd,if_neg (idxe hl hi rfl)];rw[show pre=rows by rw[hl,List.append_nil]]
 | cons x rest ih =>
  intro pre f i hl hi hf;obtain ⟨f,rfl⟩:∃g,f=g+1:=⟨f-1,by simp at hf;omega⟩;have hlen:=congrArg List.length hl;simp at hlen;have hfp:=firsts_len pre;have IH:=ih (pre++[x]) f (i+1) (idxl hl) (idxs hi) (by simp at hf;omega);rw[firsts_snoc_len] at IH;rw[r0m,decide_eq_true (idx hl hi rfl),tft,b0s hl hi,obs,g0c,if_pos (by simp only[Bool.and_eq_true,decide_eq_true_eq];omega)];subst hi;have hdt:List.drop 0 (List.take (Int.toNat ((pre.length:Nat):Int)) rows)=pre:=by rw[hl];exact n0r _ _
  rw[hdt,y0v n x.1 (fun y hy=>hl9 y (by rw[hl];simp[hy])) (by omega),obs,tfn,tfd,w64 (x:=((pre.length:Nat):Int)+1) (by omega) (by omega),w64 (x:=(((firsts pre).length:Nat):Int)+1) (by omega) (by omega)];by_cases h:x.1∈firsts pre
  ·rw[if_pos h];rw[if_pos h] at IH;exact IH
  ·rw[if_neg h];rw[if_neg h] at IH;exact IH
theorem r36_many (n:Nat) {rows:List a0z} (hl9:∀x∈rows,x.1.length≤9223372036854775807) (hL:rows.length≤1000000):g1d (n+3) rows=some ((firsts rows).length:Int):=by
 rw[p1d];have h:=many_l3 n hl9 hL rows [] a0b 0 rfl rfl (by unfold a0b;omega)
 change a0a (g0x (n+2) a0b (rows,(((firsts ([]:List a0z)).length:Nat):Int),rows,(rows.length:Int),0,())) _=_
 rw[h,obs,b0b]
theorem k1p (n:Nat) {rows:List a0z} {N:Int} (hN:1≤N) (hl9:∀x∈rows,x.1.length≤9223372036854775807) (hL:rows.length≤1000000):∀(rest A cur:List a0z) (out:List (List a0z)) (f:Nat) (i:Int),rows=A++cur++rest→i=((A++cur).length:Nat)→rest.length<f →
  out.length+cur.length+rest.length≤1000000→(cur=[]→A=[]∧out=[]) →
  ∃out' A' cur',f0w (n+3) f (N,rows,out,(A.length:Int),(rows.length:Int),i,())=some (.inl (rows,(out',((A'.length:Int),()))))∧rows=A'++cur' ∧
   splitV N.toNat out cur rest=(if cur'=[] then out' else out'++[cur'])∧out'.length≤1000000:=by
 intro rest;induction rest with
 | nil =>
  intro A cur out f i hl hi hf ho h0;obtain ⟨f,rfl⟩:∃g,f=g+1:=⟨f-1,by simp at hf;omega⟩;refine ⟨out,A,cur,?_,by rw[hl,List.append_nil],splitV_nil _ _ _,by simp at ho;omega⟩;rw[o0o];simp only[tfd,if_neg (idxe hl hi rfl)]
 | cons x rest ih =>
  intro A cur out f i hl hi hf ho h0;obtain ⟨f,rfl⟩:∃g,f=g+1:=⟨f-1,by simp at hf;omega⟩;have hlen:=congrArg List.length hl;simp at hlen ho;have hic:i=(A.length:Int)+cur.length:=by rw[hi];simp
  have hm1:List.drop (Int.toNat ((A.length:Nat):Int)) (List.take (Int.toNat (i+1)) rows)=cur++[x]:=by
   have:=a2v A (cur++[x]) rest;rw[show (((A++(cur++[x])).length:Nat):Int)=i+1 by rw[hi];simp;omega,show A++(cur++[x])++rest=rows by rw[hl];simp] at this;exact this
  have hm:List.drop (Int.toNat ((A.length:Nat):Int)) (List.take (Int.toNat i) rows)=cur:=by rw[hi,hl];exact a2v A cur (x::rest)
  rw[o0o,decide_eq_true (idx hl hi rfl),tft,w64 (x:=i+1) (by omega) (by omega),decide_eq_true (by omega),tft,g0c,if_pos (by simp only[Bool.and_eq_true,decide_eq_true_eq];omega),
   hm1,r36_many n (rows:=cur++[x]) (fun y hy=>hl9 y (by
    rw[hl];rcases List.mem_append.1 hy with hy | hy
    ·simp[hy]
    ·simp at hy;simp[hy])) (by simp;omega),obs,tfd,splitV]
  by_cases h1:N.toNat<(firsts (cur++[x])).length
  ·rw[if_pos (by omega),if_pos h1,g0c,if_pos (by simp),g0c,if_pos (by simp only[Bool.and_eq_true,decide_eq_true_eq];omega),hm,g0c,if_pos (by simp only[decide_eq_true_eq];omega)];have hcur:cur≠[]:=by
    rintro rfl;rw[List.nil_append,firsts_one] at h1;simp at h1;omega
   have hp:=List.length_pos_iff.2 hcur;have:=ih (A++cur) [x] (out++[cur]) f (i+1) (by rw[hl];simp) (by rw[hi];simp;omega) (by simp at hf;omega) (by simp;omega) (fun e=>by cases e);rw[←hi] at this;exact this
  ·rw[if_neg (by omega),if_neg h1];exact ih A (cur++[x]) out f (i+1) (by rw[hl];simp) (by rw[hi];simp;omega) (by simp at hf;omega) (by simp;omega) (fun e=>by simp at e)
theorem z1o (n:Nat) (N:Int) {rows:List a0z} (hl9:∀x∈rows,x.1.length≤9223372036854775807) (hL:rows.length≤1000000):y0w (n+4) N rows=some (splitN N rows):=by
 rw[k1t];unfold splitN;simp only[tfd];by_cases h1:N<1
 ·rw[if_pos h1,if_pos h1]
 rw[if_neg h1,if_neg h1];obtain ⟨out',A',cur',e1,e2,e3,e4⟩:=k1p n (N:=N) (by omega) hl9 hL rows [] [] [] a0b 0 rfl rfl (by unfold a0b;omega) (by simp;omega) (fun _=>⟨rfl,rfl⟩)
 change a0a (f0w (n+3) a0b (N,rows,[],((([]:List a0z).length:Nat):Int),(rows.length:Int),0,())) _=_
 have hlen:=congrArg List.length e2;simp at hlen;rw[e1,obs,b0b,e3];dsimp only;by_cases h2:cur'=[]
 ·subst h2;rw[if_neg (by simp at hlen;omega),if_pos rfl]
 ·have hp:=List.length_pos_iff.2 h2;have hm:List.drop (Int.toNat ((A'.length:Nat):Int)) (List.take rows.length rows)=cur':=by rw[e2];exact r0t A' cur'
  rw[if_pos (by omega),if_pos (by omega),if_pos (by rw[Int.toNat_natCast];omega),if_pos (by omega),hm,if_neg h2]
noncomputable def b1e (s:Sta) (x:a0z):Sta:=if (i0i s x.1 x.2).2=0 then (i0i s x.1 x.2).1 else s
noncomputable def stE:Sta→List a0z→Sta
 | s,[]=>s
 | s,x::r=>stE (b1e s x) r
noncomputable def erE:Sta→List a0z→List Int
 | _,[]=>[]
 | s,x::r=>(i0i s x.1 x.2).2::erE (b1e s x) r
theorem nextV_w {s:Sta} (hw:StaW s) (x:a0z):StaW (b1e s x):=by
 unfold b1e;split
 ·exact writeV_w hw _ _
 ·exact hw
theorem each_l3 (n:Nat) {rows:List a0z} (hr:∀x∈rows,EvW x.2) (hL:rows.length≤1000000) (s4:Sta):∀(rest pre:List a0z) (s:Sta) (E:List Int) (f:Nat) (i:Int),rows=pre++rest→i=pre.length→rest.length<f→E.length=pre.length→StaW s →
  c0g (n+24) f (s,s4,E++List.replicate rest.length (0:Int),rows,(rows.length:Int),i,())=some (.inl (stE s rest,(s4,(E++erE s rest,())))):=by
 intro rest;induction rest with
 | nil =>
  intro pre s E f i hl hi hf hE hs;obtain ⟨f,rfl⟩:∃g,f=g+1:=⟨f-1,by simp at hf;omega⟩;rw[c0l];simp only[tfd,if_neg (idxe hl hi rfl)];rfl
 | cons x rest ih =>
  intro pre s E f i hl hi hf hE hs;obtain ⟨f,rfl⟩:∃g,f=g+1:=⟨f-1,by simp at hf;omega⟩;have hlen:=congrArg List.length hl;simp at hlen;rw[c0l,decide_eq_true (idx hl hi rfl),tft,b0s hl hi,obs,x1w n hs x.1 (hr x (by rw[hl];simp)),obs];rw[show List.replicate (x::rest).length (0:Int)=0::List.replicate rest.length 0 from rfl,b0s (pre:=E) (rest:=List.replicate rest.length (0:Int)) rfl (by omega),obs];have e:i=((E.length:Nat):Int):=by omega
  rw[show Int.toNat i=Int.toNat ((E.length:Nat):Int) by rw[←e],h1w,obs,set_mid,tfd,w64 (x:=i+1) (by omega) (by omega)];have IH:=ih (pre++[x]) (b1e s x) (E++[(i0i s x.1 x.2).2]) f (i+1) (idxl hl) (idxs hi) (by simp at hf;omega) (by simp;omega) (nextV_w hs x);rw[List.append_assoc,List.singleton_append] at IH;have e2:∀(z:Int),E++[z]++erE (b1e s x) rest=E++z::erE (b1e s x) rest:=fun z=>by simp
  rw[e2] at IH;have hst:stE s (x::rest)=stE (b1e s x) rest:=rfl;have her:erE s (x::rest)=(i0i s x.1 x.2).2::erE (b1e s x) rest:=rfl;rw[hst,her,←IH];unfold b1e;split<;>rfl
theorem batch_each (n:Nat) {s:Sta} (hw:StaW s) {rows:List a0z} (hr:∀x∈rows,EvW x.2) (hL:rows.length≤1000000):q0t (n+25) s rows=some (stE s rows,erE s rows):=by
 rw[u0l,g0c,if_pos (by simp only[Bool.and_eq_true,decide_eq_true_eq];omega),Int.toNat_natCast];have:=each_l3 n hr hL (((0:Int),(((0:Int),((0:Int),(0:Int))),(((0:Int),((0:Int),(0:Int))),((0:Int),(0:Int))))),((0:Int),((0:Int),[]))) rows [] s [] a0b 0 rfl rfl (by unfold a0b;omega) rfl hw;rw[List.nil_append,List.nil_append] at this;rw[this,obs,b0b]
theorem a2t (n:Nat) (c:Conf):∃v,h0h (n+5) c=some v∧g1c (n+5) c=some v:=by
 rw[j1h,p1c,j0i (n+1) c,z1s (n+1) c];by_cases h:OkC c
 case neg=>rw[if_neg h];exact ⟨0,rfl,rfl⟩
 rw[if_pos h];simp only[obs,decide_true,Bool.not_true,tff];rw[(t1n n h).1,(t1n n h).2,obs];have:=z1x h.rng;rw[decide_eq_false (by omega),tff];exact ⟨_,rfl,rfl⟩
theorem v1f (n:Nat) (a:a0z) (hl:a.1.length≤9223372036854775807):g1e (n+2) a a=some true:=by
 rw[p1e,n0p n a.1 a.1 hl,obs];simp[g0c]
theorem same36_l (n:Nat) {l:List a0z} (hl:l.length≤1000000) (hw:∀r∈l,r.1.length≤9223372036854775807):∀(rest pre:List a0z) (f:Nat) (i:Int),l=pre++rest→i=pre.length→rest.length<f →
  g0i (n+2) f (l,l,(l.length:Int),i,())=some (.inl ()):=by
 intro rest;induction rest with
 | nil =>
  intro pre f i h hi hf;obtain ⟨f,rfl⟩:∃g,f=g+1:=⟨f-1,by simp at hf;omega⟩;rw[k0j];simp only[tfd,if_neg (idxe h hi rfl)]
 | cons a rest ih =>
  intro pre f i h hi hf;obtain ⟨f,rfl⟩:∃g,f=g+1:=⟨f-1,by simp at hf;omega⟩;have hlen:=congrArg List.length h;simp at hlen;rw[k0j,decide_eq_true (idx h hi rfl),tft,b0s h hi,obs,obs,v1f n a (hw a (by rw[h];simp)),obs,Bool.not_true,tff,w64 (x:=i+1) (by omega) (by omega)];exact ih (pre++[a]) f (i+1) (idxl h) (idxs hi) (by simp at hf;omega)
theorem same36 (n:Nat) {l:List a0z} (hl:l.length≤1000000) (hw:∀r∈l,r.1.length≤9223372036854775807):f0y (n+3) l l=some true:=by
 rw[y0z,decide_eq_true rfl,Bool.not_true,tff,same36_l n hl hw l [] a0b 0 rfl rfl (by unfold a0b;omega),obs,b0b]
theorem y1w (n:Nat) {rows:List a0z} (hl9:∀x∈rows,x.1.length≤9223372036854775807) (hL:rows.length≤1000000):∀(rest pre:List a0z) (f:Nat) (i:Int),rows=pre++rest→i=pre.length→rest.length<f →
  h0y (n+1) f (rows,(rows.length:Int),i,())=some (.inr 0)∨(h0y (n+1) f (rows,(rows.length:Int),i,())=some (.inl ())∧∀x∈rest,r0v x.1):=by
 intro rest;induction rest with
 | nil =>
  intro pre f i h hi hf;obtain ⟨f,rfl⟩:∃g,f=g+1:=⟨f-1,by simp at hf;omega⟩;rw[p0e];simp only[tfd,if_neg (idxe h hi rfl)];exact .inr ⟨trivial,by simp⟩
 | cons a rest ih =>
  intro pre f i h hi hf;obtain ⟨f,rfl⟩:∃g,f=g+1:=⟨f-1,by simp at hf;omega⟩;have hlen:=congrArg List.length h;simp at hlen;rw[p0e,decide_eq_true (idx h hi rfl),tft,b0s h hi,obs,w64 (x:=i+1) (by omega) (by omega)];rcases short05 n a.1 (hl9 a (by rw[h];simp)) with h1 | ⟨h1,h2⟩
  ·rw[h1,obs,decide_eq_true rfl,tft];exact .inl rfl
  ·rw[h1,obs,decide_eq_false (by decide),tff];rcases ih (pre++[a]) f (i+1) (idxl h) (idxs hi) (by simp at hf;omega) with k | ⟨k1,k2⟩
   ·exact .inl k
   ·refine .inr ⟨k1,fun x hx => ?_⟩;rcases List.mem_cons.1 hx with rfl | hx
    ·exact h2
    ·exact k2 x hx
theorem small36 (n:Nat) {rows:List a0z} (hl9:∀x∈rows,x.1.length≤9223372036854775807):t0w (n+2) rows=some 0∨(t0w (n+2) rows=some 1∧rows.length≤40∧∀x∈rows,r0v x.1):=by
 rw[m1a,tfd];by_cases h:40<rows.length
 ·rw[if_pos (by omega)];exact .inl rfl
 rw[if_neg (by omega)];rcases y1w n hl9 (by omega) rows [] a0b 0 rfl rfl (by unfold a0b;omega) with k | ⟨k1,k2⟩
 ·rw[k,obs,h0u];exact .inl rfl
 ·rw[k1,obs,b0b];exact .inr ⟨rfl,by omega,k2⟩
end Go.Proofs.YtfibfcjepngbmaaGreatDoor
namespace Go.Proofs.YtfibfcjepngbmaaGreatDoor
open Go.Flat
theorem ob {α β:Type} {o:Option α} {x:α} {f:α→Option β} {r:Option β} (h:o=some x) (k:f x=r):a0a o f=r:=by rw[h];exact k
theorem tt {α:Type} {b:Bool} {x y r:α} (h:b=true) (k:x=r):tif b x y=r:=by rw[h];exact k
theorem tf {α:Type} {b:Bool} {x y r:α} (h:b=false) (k:y=r):tif b x y=r:=by rw[h];exact k
theorem atFuel {α σ:Type} {g:Nat→σ→Option α} {c:Nat} {s:σ} {r:Option α} (k:g (a0b-c+c) s=r) (h:c≤a0b):g a0b s=r:=by rw[Nat.sub_add_cancel h] at k;exact k
end Go.Proofs.YtfibfcjepngbmaaGreatDoor
namespace Go.Proofs.YtfibfcjepngbmaaGreatDoor
open Go.Flat
set_option linter.unusedVariables false
theorem b1f (n:Nat)  : p0d (n+1)  =
 a0a (b2h n ) fun r0 =>
 a0a (y1l n r0) fun r1 =>
 tif ((!(decide (r1.2=(0:Int))))) (
 some false) (
 a0a (d0m n ((((((97:UInt8)::[]),[])::[]),((3:Int),((1:Int),((0:Int),false))))::((((((98:UInt8)::[]),[])::[]),((4:Int),((0:Int),((0:Int),false))))::((((((97:UInt8)::[]),[])::[]),((3:Int),((1:Int),((0:Int),false))))::[])))) fun r2 =>
 a0a (d0m n ((((((97:UInt8)::[]),[])::[]),((3:Int),((1:Int),((0:Int),false))))::((((((98:UInt8)::[]),[])::[]),((4:Int),((0:Int),((0:Int),false))))::((((((97:UInt8)::[]),[])::[]),((5:Int),((9:Int),((0:Int),false))))::[])))) fun r3 =>
 a0a (d0m n []) fun r4 =>
 a0a (k0c n ((((((97:UInt8)::[]),[])::[]),((3:Int),((1:Int),((0:Int),false))))::((((((98:UInt8)::[]),[])::[]),((4:Int),((0:Int),((0:Int),false))))::((((((97:UInt8)::[]),[])::[]),((5:Int),((9:Int),((0:Int),false))))::[])))) fun r5 =>
 a0a (e0c n (1:Int) ((((((97:UInt8)::[]),[])::[]),((3:Int),((1:Int),((0:Int),false))))::((((((98:UInt8)::[]),[])::[]),((4:Int),((0:Int),((0:Int),false))))::((((((97:UInt8)::[]),[])::[]),((5:Int),((9:Int),((0:Int),false))))::[])))) fun r6 =>
 a0a (e0c n (2:Int) ((((((97:UInt8)::[]),[])::[]),((3:Int),((1:Int),((0:Int),false))))::((((((98:UInt8)::[]),[])::[]),((4:Int),((0:Int),((0:Int),false))))::((((((97:UInt8)::[]),[])::[]),((5:Int),((9:Int),((0:Int),false))))::[])))) fun r7 =>
 a0a (q0t n r1.1 ((((((97:UInt8)::[]),[])::[]),((3:Int),((1:Int),((0:Int),false))))::((((((98:UInt8)::[]),[])::[]),((4:Int),((0:Int),((0:Int),false))))::((((((97:UInt8)::[]),[])::[]),((3:Int),((1:Int),((0:Int),false))))::((((((97:UInt8)::[]),[])::[]),((5:Int),((9:Int),((0:Int),false))))::[]))))) fun r8 =>
 tif ((!(decide ((((List.length r6):Nat):Int)=(3:Int))))) (
 some false) (
 tif ((!(decide ((((List.length r7):Nat):Int)=(1:Int))))) (
 some false) (
 tif ((!(decide ((((List.length r8.1.2.2.2):Nat):Int)=(3:Int))))) (
 some false) (
 tif ((decide (r2.1=(2:Int)))) (
 tif ((decide (r2.2=(9:Int)))) (
 tif ((decide (r3.1=(0:Int)))) (
 tif ((decide (r3.2=(0:Int)))) (
 tif ((decide (r4.2=(6:Int)))) (
 a0a (f0y n r5 ((((((97:UInt8)::[]),[])::[]),((3:Int),((1:Int),((0:Int),false))))::((((((97:UInt8)::[]),[])::[]),((5:Int),((9:Int),((0:Int),false))))::((((((98:UInt8)::[]),[])::[]),((4:Int),((0:Int),((0:Int),false))))::[])))) fun r9 =>
 tif (r9) (
 a0a (at? r7 (0:Int)) fun r10 =>
 tif ((decide ((((List.length r10):Nat):Int)=(3:Int)))) (
 a0a (e0c n (0:Int) ((((((97:UInt8)::[]),[])::[]),((3:Int),((1:Int),((0:Int),false))))::[])) fun r11 =>
 tif ((decide ((((List.length r11):Nat):Int)=(0:Int)))) (
 a0a (h0h n r1.1.1) fun r12 =>
 tif ((decide (r12=(1:Int)))) (
 a0a (h0h n ((0:Int),(((0:Int),((0:Int),(0:Int))),(((0:Int),((0:Int),(0:Int))),((0:Int),(0:Int)))))) fun r13 =>
 tif ((decide (r13=(0:Int)))) (
 a0a (r0l n r8.2 ((0:Int)::((0:Int)::((9:Int)::((0:Int)::[]))))) fun r14 =>
 tif (r14) (
 a0a (r1o n r8.1) fun r15 =>
 tif ((decide (r15=(2:Int)))) (
 a0a (at? r8.1.2.2.2 (0:Int)) fun r16 =>
 some (decide (r16.2.1=(5:Int)))) (
 some false)) (
 some false)) (
 some false)) (
 some false)) (
 some false)) (
 some false)) (
 some false)) (
 some false)) (
 some false)) (
 some false)) (
 some false)) (
 some false))))):=by kernel_rfl
abbrev zC:Int×((Int×(Int×(Int×Bool)))×((Int×(Int×(Int×Bool)))×((Int×Int)×(Int×(Int×Int))))):=(0,((0,(0,(0,false))),((0,(0,(0,false))),((0,0),(0,(0,0))))))
abbrev zS:Int×(Int×((Int×(Int×(Int×Bool)))×((Int×(Int×(Int×Bool)))×((Int×Int)×(Int×(Int×Int)))))):=(0,zC)
abbrev c0e:b0g:=((20,((10,(20,60)),((4,(5,6)),(3,9)))),(0,((-1),[([([97],[])],(5,((0,(0,[(3,(1,(0,false))),(5,(9,(0,false)))])),(([zS,zS,zS,zS],([zS,zS,zS,zS,zS],[zS,zS,zS,zS,zS,zS])),(0,(2,((3,(1,(0,false))),((5,(9,(0,false))),((0,8),(0,(0,2))))))))))),([([98],[])],(4,((0,(0,[(4,(0,(0,false)))])),(([zS,zS,zS,zS],([zS,zS,zS,zS,zS],[zS,zS,zS,zS,zS,zS])),(0,(1,((4,(0,(0,false))),((4,(0,(0,false))),((0,0),(0,(0,0))))))))))),([],(0,((0,(0,[])),(([],([],[])),zS))))])))
abbrev f0l:b0g:=((20,((10,(20,60)),((4,(5,6)),(3,9)))),(0,((-1),[([([97],[])],(3,((0,(0,[(3,(1,(0,false)))])),(([zS,zS,zS,zS],([zS,zS,zS,zS,zS],[zS,zS,zS,zS,zS,zS])),(0,(1,((3,(1,(0,false))),((3,(1,(0,false))),((0,0),(0,(0,0))))))))))),([([98],[])],(4,((0,(0,[(4,(0,(0,false)))])),(([zS,zS,zS,zS],([zS,zS,zS,zS,zS],[zS,zS,zS,zS,zS,zS])),(0,(1,((4,(0,(0,false))),((4,(0,(0,false))),((0,0),(0,(0,0))))))))))),([],(0,((0,(0,[])),(([],([],[])),zS))))])))
abbrev l0d:b0g:=((20,((10,(20,60)),((4,(5,6)),(3,9)))),(0,((-1),[([([97],[])],(3,((0,(0,[(3,(1,(0,false)))])),(([zS,zS,zS,zS],([zS,zS,zS,zS,zS],[zS,zS,zS,zS,zS,zS])),(0,(1,((3,(1,(0,false))),((3,(1,(0,false))),((0,0),(0,(0,0))))))))))),([],(0,((0,(0,[])),(([],([],[])),zS)))),([],(0,((0,(0,[])),(([],([],[])),zS))))])))
theorem h1g (n:Nat):b2h (n+59)=some (20,((10,(20,60)),((4,(5,6)),(3,9)))):=by kernel_rfl
theorem g1z (n:Nat):y1l (n+59) (20,((10,(20,60)),((4,(5,6)),(3,9))))=some (((20,((10,(20,60)),((4,(5,6)),(3,9)))),(0,((-1),[([],(0,((0,(0,[])),(([],([],[])),zS)))),([],(0,((0,(0,[])),(([],([],[])),zS)))),([],(0,((0,(0,[])),(([],([],[])),zS))))]))),0):=by kernel_rfl
theorem g1y (n:Nat):d0m (n+59) [([([97],[])],(3,(1,(0,false)))),([([98],[])],(4,(0,(0,false)))),([([97],[])],(3,(1,(0,false))))]=some (2,9):=by kernel_rfl
theorem g1x (n:Nat):d0m (n+59) [([([97],[])],(3,(1,(0,false)))),([([98],[])],(4,(0,(0,false)))),([([97],[])],(5,(9,(0,false))))]=some (0,0):=by kernel_rfl
theorem g1w (n:Nat):d0m (n+59) []=some (0,6):=by kernel_rfl
theorem g1v (n:Nat):k0c (n+59) [([([97],[])],(3,(1,(0,false)))),([([98],[])],(4,(0,(0,false)))),([([97],[])],(5,(9,(0,false))))]=some [([([97],[])],(3,(1,(0,false)))),([([97],[])],(5,(9,(0,false)))),([([98],[])],(4,(0,(0,false))))]:=by kernel_rfl
theorem g1u (n:Nat):e0c (n+59) (1) [([([97],[])],(3,(1,(0,false)))),([([98],[])],(4,(0,(0,false)))),([([97],[])],(5,(9,(0,false))))]=some [[([([97],[])],(3,(1,(0,false))))],[([([98],[])],(4,(0,(0,false))))],[([([97],[])],(5,(9,(0,false))))]]:=by kernel_rfl
theorem g1t (n:Nat):e0c (n+59) (2) [([([97],[])],(3,(1,(0,false)))),([([98],[])],(4,(0,(0,false)))),([([97],[])],(5,(9,(0,false))))]=some [[([([97],[])],(3,(1,(0,false)))),([([98],[])],(4,(0,(0,false)))),([([97],[])],(5,(9,(0,false))))]]:=by kernel_rfl
theorem g1s (n:Nat):j0l (n+58) ((20,((10,(20,60)),((4,(5,6)),(3,9)))),(0,((-1),[([],(0,((0,(0,[])),(([],([],[])),zS)))),([],(0,((0,(0,[])),(([],([],[])),zS)))),([],(0,((0,(0,[])),(([],([],[])),zS))))]))) [([97],[])] (3,(1,(0,false)))=some (l0d,0):=by kernel_rfl
theorem g1r (n:Nat):j0l (n+58) l0d [([98],[])] (4,(0,(0,false)))=some (f0l,0):=by kernel_rfl
theorem b1t (n:Nat):j0l (n+58) f0l [([97],[])] (3,(1,(0,false)))=some (((0,((0,(0,0)),((0,(0,0)),(0,0)))),(0,(0,[]))),9):=by kernel_rfl
theorem b1s (n:Nat):j0l (n+58) f0l [([97],[])] (5,(9,(0,false)))=some (c0e,0):=by kernel_rfl
theorem b1r (n f:Nat):c0g (n+58) (f+1) (c0e,(((0,((0,(0,0)),((0,(0,0)),(0,0)))),(0,(0,[]))),([0,0,9,0],([([([97],[])],(3,(1,(0,false)))),([([98],[])],(4,(0,(0,false)))),([([97],[])],(3,(1,(0,false)))),([([97],[])],(5,(9,(0,false))))],(4,(4,()))))))=some (.inl (c0e,(((0,((0,(0,0)),((0,(0,0)),(0,0)))),(0,(0,[]))),([0,0,9,0],())))):=by
 rw[c0l];refine tf (by kernel_rfl) ?_
 kernel_rfl
theorem b1q (n f:Nat):c0g (n+58) (f+2) (f0l,(((0,((0,(0,0)),((0,(0,0)),(0,0)))),(0,(0,[]))),([0,0,9,0],([([([97],[])],(3,(1,(0,false)))),([([98],[])],(4,(0,(0,false)))),([([97],[])],(3,(1,(0,false)))),([([97],[])],(5,(9,(0,false))))],(4,(3,()))))))=some (.inl (c0e,(((0,((0,(0,0)),((0,(0,0)),(0,0)))),(0,(0,[]))),([0,0,9,0],())))):=by
 rw[c0l];refine tt (by kernel_rfl) ?_;refine ob (x:=([([97],[])],(5,(9,(0,false))))) (by kernel_rfl) ?_;refine ob (b1s (n+0)) ?_;refine ob (x:=0) (by kernel_rfl) ?_;refine ob (x:=0) (by kernel_rfl) ?_;refine tt (by kernel_rfl) ?_;exact b1r n f
theorem b1p (n f:Nat):c0g (n+58) (f+3) (f0l,(((0,((0,(0,0)),((0,(0,0)),(0,0)))),(0,(0,[]))),([0,0,0,0],([([([97],[])],(3,(1,(0,false)))),([([98],[])],(4,(0,(0,false)))),([([97],[])],(3,(1,(0,false)))),([([97],[])],(5,(9,(0,false))))],(4,(2,()))))))=some (.inl (c0e,(((0,((0,(0,0)),((0,(0,0)),(0,0)))),(0,(0,[]))),([0,0,9,0],())))):=by
 rw[c0l];refine tt (by kernel_rfl) ?_;refine ob (x:=([([97],[])],(3,(1,(0,false))))) (by kernel_rfl) ?_;refine ob (b1t (n+0)) ?_;refine ob (x:=0) (by kernel_rfl) ?_;refine ob (x:=0) (by kernel_rfl) ?_;refine tf (by kernel_rfl) ?_;exact b1q n f
theorem b1o (n f:Nat):c0g (n+58) (f+4) (l0d,(((0,((0,(0,0)),((0,(0,0)),(0,0)))),(0,(0,[]))),([0,0,0,0],([([([97],[])],(3,(1,(0,false)))),([([98],[])],(4,(0,(0,false)))),([([97],[])],(3,(1,(0,false)))),([([97],[])],(5,(9,(0,false))))],(4,(1,()))))))=some (.inl (c0e,(((0,((0,(0,0)),((0,(0,0)),(0,0)))),(0,(0,[]))),([0,0,9,0],())))):=by
 rw[c0l];refine tt (by kernel_rfl) ?_;refine ob (x:=([([98],[])],(4,(0,(0,false))))) (by kernel_rfl) ?_;refine ob (g1r (n+0)) ?_;refine ob (x:=0) (by kernel_rfl) ?_;refine ob (x:=0) (by kernel_rfl) ?_;refine tt (by kernel_rfl) ?_;exact b1p n f
theorem b1n (n f:Nat):c0g (n+58) (f+5) (((20,((10,(20,60)),((4,(5,6)),(3,9)))),(0,((-1),[([],(0,((0,(0,[])),(([],([],[])),zS)))),([],(0,((0,(0,[])),(([],([],[])),zS)))),([],(0,((0,(0,[])),(([],([],[])),zS))))]))),(((0,((0,(0,0)),((0,(0,0)),(0,0)))),(0,(0,[]))),([0,0,0,0],([([([97],[])],(3,(1,(0,false)))),([([98],[])],(4,(0,(0,false)))),([([97],[])],(3,(1,(0,false)))),([([97],[])],(5,(9,(0,false))))],(4,(0,()))))))=some (.inl (c0e,(((0,((0,(0,0)),((0,(0,0)),(0,0)))),(0,(0,[]))),([0,0,9,0],())))):=by
 rw[c0l];refine tt (by kernel_rfl) ?_;refine ob (x:=([([97],[])],(3,(1,(0,false))))) (by kernel_rfl) ?_;refine ob (g1s (n+0)) ?_;refine ob (x:=0) (by kernel_rfl) ?_;refine ob (x:=0) (by kernel_rfl) ?_;refine tt (by kernel_rfl) ?_;exact b1o n f
theorem b1m (n:Nat):q0t (n+59) ((20,((10,(20,60)),((4,(5,6)),(3,9)))),(0,((-1),[([],(0,((0,(0,[])),(([],([],[])),zS)))),([],(0,((0,(0,[])),(([],([],[])),zS)))),([],(0,((0,(0,[])),(([],([],[])),zS))))]))) [([([97],[])],(3,(1,(0,false)))),([([98],[])],(4,(0,(0,false)))),([([97],[])],(3,(1,(0,false)))),([([97],[])],(5,(9,(0,false))))]=some (c0e,[0,0,9,0]):=by
 rw[u0l];refine tt (by kernel_rfl) ?_;refine ob (atFuel (h:=by unfold a0b;omega) (b1n n (a0b-5))) ?_;refine Eq.trans (b0b ..) ?_
 kernel_rfl
theorem b1l (n:Nat):f0y (n+59) [([([97],[])],(3,(1,(0,false)))),([([97],[])],(5,(9,(0,false)))),([([98],[])],(4,(0,(0,false))))] [([([97],[])],(3,(1,(0,false)))),([([97],[])],(5,(9,(0,false)))),([([98],[])],(4,(0,(0,false))))]=some true:=by kernel_rfl
theorem b1k (n:Nat):e0c (n+59) (0) [([([97],[])],(3,(1,(0,false))))]=some []:=by kernel_rfl
theorem b1j (n:Nat):h0h (n+59) (20,((10,(20,60)),((4,(5,6)),(3,9))))=some 1:=by kernel_rfl
theorem b1i (n:Nat):h0h (n+59) (0,((0,(0,0)),((0,(0,0)),(0,0))))=some 0:=by kernel_rfl
theorem b1h (n:Nat):r0l (n+59) [0,0,9,0] [0,0,9,0]=some true:=by kernel_rfl
theorem b1g (n:Nat):r1o (n+59) c0e=some 2:=by kernel_rfl
theorem l0e (n:Nat):p0d (n+60)=some true:=by
 rw[b1f];refine ob (h1g (n+0)) ?_;refine ob (g1z (n+0)) ?_;refine tf (by kernel_rfl) ?_;refine ob (g1y (n+0)) ?_;refine ob (g1x (n+0)) ?_;refine ob (g1w (n+0)) ?_;refine ob (g1v (n+0)) ?_;refine ob (g1u (n+0)) ?_;refine ob (g1t (n+0)) ?_;refine ob (b1m n) ?_;refine tf (by kernel_rfl) ?_;refine tf (by kernel_rfl) ?_;refine tf (by kernel_rfl) ?_;refine tt (by kernel_rfl) ?_;refine tt (by kernel_rfl) ?_;refine tt (by kernel_rfl) ?_;refine tt (by kernel_rfl) ?_;refine tt (by kernel_rfl) ?_
 refine ob (b1l (n+0)) ?_;refine tt (by kernel_rfl) ?_;refine ob (x:=[([([97],[])],(3,(1,(0,false)))),([([98],[])],(4,(0,(0,false)))),([([97],[])],(5,(9,(0,false))))]) (by kernel_rfl) ?_;refine tt (by kernel_rfl) ?_;refine ob (b1k (n+0)) ?_;refine tt (by kernel_rfl) ?_;refine ob (b1j (n+0)) ?_;refine tt (by kernel_rfl) ?_;refine ob (b1i (n+0)) ?_;refine tt (by kernel_rfl) ?_;refine ob (b1h (n+0)) ?_;refine tt (by kernel_rfl) ?_;refine ob (b1g (n+0)) ?_;refine tt (by kernel_rfl) ?_
 refine ob (x:=([([97],[])],(5,((0,(0,[(3,(1,(0,false))),(5,(9,(0,false)))])),(([zS,zS,zS,zS],([zS,zS,zS,zS,zS],[zS,zS,zS,zS,zS,zS])),(0,(2,((3,(1,(0,false))),((5,(9,(0,false))),((0,8),(0,(0,2)))))))))))) (by kernel_rfl) ?_
 kernel_rfl
end Go.Proofs.YtfibfcjepngbmaaGreatDoor
namespace Go.Proofs.YtfibfcjepngbmaaGreatDoor
open Go.Flat Go.Plim
set_option linter.unusedVariables false
set_option linter.unusedSimpArgs false
theorem rows_wf {rows:List a0z} (h:Wf (.slice a0u) rows):(∀x∈rows,x.1.length≤9223372036854775807)∧∀x∈rows,EvW x.2:=by
 refine ⟨fun x hx => ?_,fun x hx => ?_⟩
 ·obtain ⟨h1,_⟩:=h.2 x hx;have:=h1.1
  simpa only [maxLen] using this
 ·obtain ⟨_,h2⟩:=h.2 x hx;exact ev_wf h2
theorem o1k (N:Nat):∀(rest:List a0z) (out:List (List a0z)) (cur:List a0z),(splitV N out cur rest).flatten=out.flatten++cur++rest:=by
 intro rest;induction rest with
 | nil =>
  intro out cur;rw[splitV_nil];by_cases h:cur=[]
  ·rw[if_pos h,h];simp
  ·rw[if_neg h];simp
 | cons x rest ih =>
  intro out cur;rw[splitV];split
  ·rw[ih];simp
  ·rw[ih];simp
theorem u1g (N:Nat):∀(rest:List a0z) (out:List (List a0z)) (cur:List a0z),(splitV N out cur rest).length≤out.length+rest.length+1:=by
 intro rest;induction rest with
 | nil =>
  intro out cur;rw[splitV_nil];split<;>simp
 | cons x rest ih =>
  intro out cur;rw[splitV];split
  ·have:=ih (out++[cur]) [x];simp at this ⊢;omega
  ·have:=ih out (cur++[x]);simp at this ⊢;omega
theorem c1s {N:Int} {rows p:List a0z} (h:p∈splitN N rows):p.length≤rows.length∧∀y∈p,y∈rows:=by
 unfold splitN at h;split at h
 ·simp at h
 ·have hf:=o1k N.toNat rows [] [];simp at hf;have hm:∀y∈p,y∈rows:=fun y hy=>by rw[←hf];exact List.mem_flatten.2 ⟨p,h,hy⟩
  refine ⟨?_,hm⟩;rw[←hf];exact (List.sublist_flatten_of_mem h).length_le
theorem u1h (N:Int) (rows:List a0z):(splitN N rows).length≤rows.length+1:=by
 unfold splitN;split
 ·simp
 ·have:=u1g N.toNat rows [] [];simp at this;omega
theorem tells_l9 (n:Nat) (c:Conf) {p:List (List a0z)} (hp:∀r∈p,r.length≤1000000∧∀y∈r,y.1.length≤9223372036854775807) (hL:p.length≤1000000):∀(rest pre:List (List a0z)) (f:Nat) (i:Int),p=pre++rest→i=pre.length→rest.length<f →
  f0g (n+3) f (c,p,p,(p.length:Int),i,())=some (.inl (c,())):=by
 intro rest;induction rest with
 | nil =>
  intro pre f i hl hi hf;obtain ⟨f,rfl⟩:∃g,f=g+1:=⟨f-1,by simp at hf;omega⟩;rw[i0o];simp only[tfd,if_neg (idxe hl hi rfl)]
 | cons x rest ih =>
  intro pre f i hl hi hf;obtain ⟨f,rfl⟩:∃g,f=g+1:=⟨f-1,by simp at hf;omega⟩;have hlen:=congrArg List.length hl;simp at hlen;have hx:=hp x (by rw[hl];simp);rw[i0o,decide_eq_true (idx hl hi rfl),tft,b0s hl hi,obs,obs,same36 n hx.1 hx.2,obs,Bool.not_true,tff,w64 (x:=i+1) (by omega) (by omega)];exact ih (pre++[x]) f (i+1) (idxl hl) (idxs hi) (by simp at hf;omega)
theorem a1j (n:Nat) (rows:List a0z) (N:Int) (c:Conf) (hr:Wf (.slice a0u) rows):r0p (n+61) rows N c=some true:=by
 obtain ⟨hl9,hw⟩:=rows_wf hr;rw[v0m];rcases small36 (n+58) hl9 with h | ⟨h,h40,hs⟩
 ·rw[h,obs,decide_eq_true rfl,tft,l0e n,obs]
 rw[h,obs,decide_eq_false (by decide),tff,a1i (n+51) hw,obs,z1q (n+57) hw hl9,obs,r1c (n+52) N hs (by omega),obs,z1o (n+56) N hl9 (by omega),obs];rw[decide_eq_true rfl,Bool.not_true,tff,decide_eq_true rfl,Bool.not_true,tff,r1d (n+52) hs (by omega),obs,z1p (n+57) hl9 (by omega),obs,
  same36 (n+57) (l:=grpV rows) (by rw[grpV_len];omega) (fun r hr=>hl9 r (mem_grp.1 hr)),obs,Bool.not_true,tff,decide_eq_true rfl,Bool.not_true,tff]
 have hsl:=u1h N rows;rw[tells_l9 (n+57) c (p:=splitN N rows) (fun r hr=>⟨by have:=(c1s hr).1;omega,fun y hy=>hl9 y ((c1s hr).2 y hy)⟩) (by omega) (splitN N rows) [] a0b 0 rfl rfl (by unfold a0b;omega),obs,b0b];dsimp only;obtain ⟨v,e1,e2⟩:=a2t (n+55) c;rw[l0e n,obs,tft,e1,obs,e2,obs,decide_eq_true rfl]
def q0x (t:Int) (k:Nat):List a0z:=(List.range k).map fun i:Nat=>([([97],[])],(t+(i:Int),(0,(0,false))))
theorem w1b (t:Int) (k:Nat):q0x t (k+1)=q0x t k++[([([97],[])],(t+(k:Int),(0,(0,false))))]:=by simp[q0x,List.range_succ]
theorem l1w (t:Int) (k:Nat):(q0x t k).length=k:=by simp[q0x]
theorem long_l8 (n:Nat) {t:Int} {K:Nat} (ht:0≤t∧t≤1099511627776) (hK:K≤1100):∀(d i f:Nat),i+d=K→d<f→e0g n f (t,((K:Nat):Int),q0x t i,((K:Nat):Int),((i:Nat):Int),())=some (.inl (((K:Nat):Int),(q0x t K,()))):=by
 intro d;induction d with
 | zero =>
  intro i f hi hf;obtain ⟨f,rfl⟩:∃g,f=g+1:=⟨f-1,by omega⟩;have:i=K:=by omega
  subst this;rw[j0x,decide_eq_false (by omega),tff]
 | succ d ih =>
  intro i f hi hf;obtain ⟨f,rfl⟩:∃g,f=g+1:=⟨f-1,by omega⟩;rw[j0x,decide_eq_true (by omega),tft,l1w,decide_eq_true (by omega),tft,w64 (x:=t+((i:Nat):Int)) (by omega) (by omega),w64 (x:=((i:Nat):Int)+1) (by omega) (by omega)];have IH:=ih (i+1) f (by omega) (by omega);rw[w1b] at IH;exact IH
theorem lab_a:LabOk [([97],[])]:=by
 refine ⟨by simp,by simp,⟨by decide,by simp,by simp,trivial⟩,by simp[sumL]⟩
theorem l1v {t:Int} {k:Nat} {x:a0z} (h:x∈q0x t k):∃i:Nat,i<k∧x=([([97],[])],(t+(i:Int),(0,(0,false)))):=by
 obtain ⟨i,hi,rfl⟩:=List.mem_map.1 h;exact ⟨i,List.mem_range.1 hi,rfl⟩
theorem b2a {t:Int} {k:Nat} (ht:0≤t∧t≤1099511627776) (hk:k≤1100) {x:a0z} (h:x∈q0x t k):badR x=0:=by
 obtain ⟨i,hi,rfl⟩:=l1v h;exact e2a lab_a ⟨by show 0≤t+(i:Int);omega,by show t+(i:Int)<35184372088832;omega,by simp,by simp,by simp,by show (0:Int)≤t+(i:Int);omega,fun e=>by cases e⟩
theorem longR_w {t:Int} {k:Nat} (ht:0≤t∧t≤1099511627776) (hk:k≤1100) {x:a0z} (h:x∈q0x t k):EvW x.2:=by
 obtain ⟨i,hi,rfl⟩:=l1v h;refine ⟨?_,by simp,?_⟩
 ·show -9223372036854775808≤t+(i:Int)∧t+(i:Int)≤9223372036854775807;omega
 ·show -9223372036854775808≤(0:Int)∧(0:Int)≤9223372036854775807;omega
theorem longR_up (t:Int) (k:Nat):(q0x t k).Pairwise fun y x=>tm36 y.2<tm36 x.2:=by
 unfold q0x;rw[List.pairwise_map];refine List.Pairwise.imp (fun {a b} h => ?_) List.pairwise_lt_range;show t+(a:Int)<t+(b:Int);omega
theorem w1a {t:Int} {k:Nat} (ht:0≤t∧t≤1099511627776) (hk:k≤1100):e1g (q0x t k)=if k<1∨1024<k then (0,6) else (0,0):=by
 unfold e1g;rw[l1w,chkF_ok badR tm36 9 (q0x t k) [] (fun x hx=>b2a ht hk hx) (by rw[List.nil_append];exact longR_up t k)]
theorem c1m (n:Nat) (m t:Int) (hm:0≤m∧m≤65535):t0x (n+61) m t=some true:=by
 rw[x0g,l0e n,obs,Bool.not_true,tff,tfd];by_cases h1:t<0
 ·rw[if_pos h1]
 rw[if_neg h1,tfd];by_cases h2:1099511627776<t
 ·rw[if_pos h2]
 rw[if_neg h2,w64 (x:=m) (by omega) (by omega)];obtain ⟨k,hk,hk9⟩:∃k:Nat,Int.tmod m (1100:Int)=((k:Nat):Int)∧k<1100:=⟨(m % 1100).toNat,by rw[Int.tmod_eq_emod_of_nonneg hm.1];omega,by omega⟩;have ht:0≤t∧t≤1099511627776:=by omega
 rw[hk];have h8:=long_l8 (n+60) ht (show k≤1100 by omega) k 0 a0b (by omega) (by unfold a0b;omega)
 change a0a (e0g (n+60) a0b (t,((k:Nat):Int),q0x t 0,((k:Nat):Int),((0:Nat):Int),())) _=_
 rw[h8,obs,b0b];dsimp only;rw[a1i (n+51) (rows:=q0x t k) (fun x hx=>longR_w ht (by omega) hx),obs,w1a ht (by omega)];by_cases h0:k<1
 ·have:k=0:=by omega
  subst this;rfl
 by_cases h3:1024<k
 ·rw[if_pos (.inr h3),decide_eq_true rfl,tft,decide_eq_true (by omega),tft,decide_eq_false (show ¬((k:Nat):Int)≤1024 by omega),decide_eq_false (show ¬(((0:Int),(6:Int)).2=0) by decide),decide_eq_false (show ¬((k:Nat):Int)=0 by omega),decide_eq_true (show (1024:Int)<((k:Nat):Int) by omega)];rfl
 ·rw[if_neg (by omega),decide_eq_true rfl,tft,decide_eq_true (by omega),tft,decide_eq_true (show ((k:Nat):Int)≤1024 by omega),decide_eq_false (show ¬((k:Nat):Int)=0 by omega),decide_eq_false (show ¬(1024:Int)<((k:Nat):Int) by omega)];rfl
end Go.Proofs.YtfibfcjepngbmaaGreatDoor
