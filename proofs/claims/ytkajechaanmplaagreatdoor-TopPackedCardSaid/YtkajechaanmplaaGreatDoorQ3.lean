/-
 Plain proofs about the functions of this seat, part 3 of 3.
-/
import Derived.Test.YtkajechaanmplaaGreatDoorQ2
import Derived.KernelRfl
import Derived.Test.YtkajechaanmplaaGreatDoorFlatM4
namespace Go.Proofs.YtkajechaanmplaaGreatDoor
open Go.Flat Go.Plim
set_option linter.unusedVariables false
set_option linter.unusedSimpArgs false
theorem c2h (n:Nat):h0a (n+39) [(5,(100,(0,false)))]=some ([1,20,200,1],0):=by kernel_rfl
theorem b18_fit (n:Nat):z1p (n+39)=some (20,((10,(20,60)),((4,(5,6)),(3,9)))):=by kernel_rfl
theorem b18_most (n:Nat):e1a (n+39) (20,((10,(20,60)),((4,(5,6)),(3,9))))=some 1:=by kernel_rfl
theorem c2g (n:Nat):a1j (n+39) 1 [([([97],[])],(5,(0,(0,false)))),([([98],[])],(5,(0,(0,false))))]=some [[([([97],[])],(5,(0,(0,false))))],[([([98],[])],(5,(0,(0,false))))]]:=by kernel_rfl
theorem i1i (n:Nat):n0x (n+40)=some true:=by
 rw[y0g];refine ob (c2h n) ?_;refine tt (by kernel_rfl) ?_;refine tt (by kernel_rfl) ?_;refine ob (b18_fit n) ?_;refine ob (b18_most n) ?_;refine tt (by kernel_rfl) ?_;refine ob (c2g n) ?_
 kernel_rfl
theorem fresh_ok {c:Conf} (hc:OkC c) {l:List Lab} (hl:LabOk l):SerOk c (fresh c l):=y0x (f1v hc hl)
theorem u1a (n:Nat) {c:Conf} {t:Sta} (hg:Good c t) {L:List Int} (hL:L.length≤1000000) (hlive:∀i∈L,∃k x,i=((k:Nat):Int)∧t.2.2.2[k]? = some x∧LvX t x):∀(rest pre:List Int) (f:Nat) (i:Int),L=pre++rest→i=pre.length→rest.length<f →
  d0t (n+39) f (c,t,L,(L.length:Int),i,())=some (.inl ()):=by
 intro rest;induction rest with
 | nil =>
  intro pre f i hl hi hf;obtain ⟨f,rfl⟩:∃g,f=g+1:=⟨f-1,by simp at hf;omega⟩;rw[i0i];simp only[tfd,if_neg (idxe hl hi rfl)]
 | cons q rest ih =>
  intro pre f i hl hi hf;obtain ⟨f,rfl⟩:∃g,f=g+1:=⟨f-1,by simp at hf;omega⟩;have hlen:=congrArg List.length hl;simp at hlen;obtain ⟨k,x,rfl,hx,hlv⟩:=hlive q (by rw[hl];simp);have IH:=ih (pre++[((k:Nat):Int)]) f (i+1) (idxl hl) (idxs hi) (by simp at hf;omega);have hkl:=(List.getElem?_eq_some_iff.1 hx).1;have hget:L[Int.toNat i]? = some ((k:Nat):Int):=by
   rw[hl,hi,Int.toNat_natCast,List.getElem?_append_right (Nat.le_refl _),Nat.sub_self];rfl
  have hwl:=hg.w.len;rw[i0i,decide_eq_true (idx hl hi rfl),tft,b0z hl hi,obs,hget,obs,decide_eq_false (by omega),tff,decide_eq_false (by omega),tff,i1j hx,obs,w64 (x:=i+1) (by omega) (by omega),tfd];by_cases h0:0<x.2.2.1.1
  ·rw[if_pos h0];exact IH
  rw[if_neg h0];have hxm:=hg.w.at hx;have hne:=hlv.1;have hcf:=hg.cf;have hsx:SerOk c x:=by
   rcases hg.ok.right k x hx with z | z
   ·exact absurd z hne
   ·rw[←hcf];exact z.1
  have hcok:OkC c:=by rw[←hcf];exact hg.ok.whole.1
  have hraw:=hsx.raw;obtain ⟨es,e1,e2,e3⟩:Made c x:=(hg.m x (List.mem_of_getElem? hx)).resolve_left hne;have hLe:=e3 (by have:=hraw.l0;omega);have hlen4:x.2.2.1.2.2.length≤4096:=by have:=hraw.len;have:=hraw.m1;omega
  have hww:∀e∈x.2.2.1.2.2,EvW e:=hxm.1.raw;have hld:=evsD_len x.2.2.1.2.2 0 0 (by decide) hraw.f.ok;have h10:=i0a (n:=x.2.2.1.2.2.length) (by omega);have hload:(uvB x.2.2.1.2.2.length++evsD 0 0 x.2.2.1.2.2).length≤1000000:=by rw[List.length_append];omega
  have f1:=a2e (n+33) (k:=9) (by decide) hload;have f2:=u1k (n+32) (k:=9) (by decide) hload;have hlab:LabOk x.1:=hsx.lab;have hnew:newV c x.1=(fresh c x.1,0):=o1n hcok hlab;rw[z0z (n+34) hww hraw.f.ok hraw.f.inc hlen4,obs];dsimp only;have f1:p0p (n+39) (9:Int) (uvB x.2.2.1.2.2.length++evsD 0 0 x.2.2.1.2.2)=_:=f1;have f2:t0f (n+39) (9:Int) _=_:=f2;rw[f1,obs];dsimp only;rw[f2,obs];dsimp only;rw[v1q (n+33) hww hraw.f.ok hraw.f.inc hlen4,obs,c1q (n+32) c x.1,hnew,obs];dsimp only;rw[decide_eq_true rfl,Bool.not_true,tff,tff,tff,tff,tff,hLe]
  have hel:¬(((es.length:Nat):Int)=0):=by
   have:=List.length_pos_iff.2 e1;omega
  rw[decide_eq_false hel,tff,t1z (n+16) t x L _ _ (L:=es) (by rw[←hLe];omega) (by rw[←hLe];exact hww) es [] a0b (fresh c x.1) x 0 rfl rfl (by rw[←hLe];unfold a0b;omega) (fresh_ok hcok hlab) (q1o (f1v hcok hlab)) e2,obs,b0g];dsimp only;rw[y0u (n+36) x x hxm.2,obs,decide_eq_true rfl,Bool.not_true,tff,w64 (x:=i+1) (by omega) (by omega)];exact IH
theorem a1t (n:Nat) (c:Conf) (acts:List m1c) (ha:Wf (.slice j0i) acts):s0h (n+41) c acts=some true:=by
 obtain ⟨hL,hl9,hev⟩:=acts_wf ha;rw[w0u,i1i n,obs,Bool.not_true,tff];rcases fits11 (n+32) c with h | ⟨h,hnew⟩
 ·rw[h];rfl
 rw[h,obs,Bool.not_true,tff];rcases s1y (n+38) acts hL hl9 with h2 | ⟨h2,h40⟩
 ·rw[h2];rfl
 rw[h2,obs,Bool.not_true,tff,x1f (n+33) c,obs,hnew,decide_eq_true rfl,Bool.not_true,tff];obtain ⟨t,e1,hg⟩:=y1l (n+15) (c:=c) (by omega) hev acts [] a0b (q0f c).1 0 rfl rfl (by unfold a0b;omega) (good_new hnew);rw[e1,obs,b0g];dsimp only;rw[q1j (n+32) hg.w,obs];have hlv:∀i∈k1r t,∃k x,i=((k:Nat):Int)∧t.2.2.2[k]? = some x∧LvX t x:=by
  intro i hi;unfold k1r at hi;rw[if_pos hg.ok.whole] at hi;obtain ⟨k,hk,rfl⟩:=List.mem_map.1 hi;unfold t0o at hk;obtain ⟨h3,h4⟩:=List.mem_filter.1 hk;have h3:=List.mem_range.1 h3;have hx:=List.getElem?_eq_getElem h3;rw[z0l hx] at h4;exact ⟨k,_,rfl,hx,of_decide_eq_true h4⟩
 have hlen:(k1r t).length≤1000000:=by
  unfold k1r;rw[if_pos hg.ok.whole,List.length_map];have:=r1h t;have:=hg.ok.whole.len;omega
 rw[u1a (n+1) hg hlen hlv (k1r t) [] a0b 0 rfl rfl (by unfold a0b;omega),obs,b0g]
end Go.Proofs.YtkajechaanmplaaGreatDoor
