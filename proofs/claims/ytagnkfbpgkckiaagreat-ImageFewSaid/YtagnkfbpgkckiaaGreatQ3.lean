/-
 Plain proofs about the functions of this seat, part 3 of 3.
-/
import Derived.Test.YtagnkfbpgkckiaaGreatQ2
namespace Go.Proofs.YtagnkfbpgkckiaaGreat
open Go.Flat Go.Plim
set_option linter.unusedVariables false
set_option linter.unusedSimpArgs false
theorem c1f {α:Type} {m f:Nat} (hm:1≤m) {xs:List α} (h:xs.length≤f):d0b f m xs=d0b xs.length m xs :=
 List.ext_getElem? fun k=>by rw[g0p hm f xs h,g0p hm _ xs (Nat.le_refl _)]
theorem cutB_nil {α:Type} (m:Nat) (f:α→List UInt8):cutB m f []=[]:=rfl
theorem j2t {α:Type} {m:Nat} (hm:1≤m) (f:α→List UInt8) {l:List α} (h:l≠[]):cutB m f l=padB ((l.take m).flatMap f) 512::cutB m f (l.drop m):=by
 cases l with
 | nil=>exact absurd rfl h
 | cons x t =>
  unfold cutB;show List.map _ (d0b (t.length+1) m (x::t))=_;rw[c1g,List.map_cons,c1f hm (by simp;omega)]
theorem t1c {α:Type} {m:Nat} (hm:1≤m) (xs:List α):(d0b xs.length m xs).length=(xs.length+m-1) / m:=by
 obtain ⟨c,hc⟩:∃c,c=(d0b xs.length m xs).length:=⟨_,rfl⟩;have h1:=(m0f hm xs c);rw[hc] at h1;have h2:¬(d0b xs.length m xs).length*m<xs.length:=fun h=>Nat.lt_irrefl _ (h1.2 h)
 rw[←hc] at h2 ⊢;symm;apply Nat.div_eq_of_lt_le
 ·cases c with
  | zero=>omega
  | succ k =>
   have h3:=(m0f hm xs k).1 (by rw[←hc];omega);rw[Nat.add_mul];omega
 ·rw[Nat.succ_mul];omega
theorem h0b {α:Type} {m:Nat} (hm:1≤m) (f:α→List UInt8) (l:List α):(cutB m f l).length=(l.length+m-1) / m:=by rw[o1g,t1c hm]
theorem s1y {α:Type} {m w:Nat} (hm:1≤m) (hmw:m*w=512) {f:α→List UInt8}:∀(k:Nat) (l:List α),l.length≤k→(∀x∈l,(f x).length=w)→∃z,(cutB m f l).flatten=l.flatMap f++z:=by
 intro k;induction k with
 | zero =>
  intro l h _;have:l=[]:=List.eq_nil_of_length_eq_zero (by omega);subst this;exact ⟨[],rfl⟩
 | succ k ih =>
  intro l h hf;by_cases hl:l=[]
  ·subst hl;exact ⟨[],rfl⟩
  ·have hpos:=List.length_pos_iff.2 hl;rw[j2t hm f hl,List.flatten_cons];obtain ⟨z,hz⟩:=ih (l.drop m) (by rw[List.length_drop];omega) fun x hx=>hf x (List.mem_of_mem_drop hx)
   by_cases hc:m≤l.length
   ·have hlen:((l.take m).flatMap f).length=512:=by
     rw[d1j _ fun x hx=>hf x (List.mem_of_mem_take hx),List.length_take,Nat.min_eq_left hc,hmw]
    refine ⟨z,?_⟩;rw[hz];have e:padB ((l.take m).flatMap f) 512=(l.take m).flatMap f:=by unfold padB;rw[hlen];simp
    rw[e,←List.append_assoc,←List.flatMap_append,List.take_append_drop]
   ·have e1:l.take m=l:=List.take_of_length_le (by omega);have e2:l.drop m=[]:=List.drop_of_length_le (by omega);rw[e1,e2,cutB_nil,List.flatten_nil,List.append_nil];exact ⟨_,rfl⟩
theorem o0g {α:Type} {m w:Nat} (hm:1≤m) (hmw:m*w=512) {f:α→List UInt8} {l:List α} (hf:∀x∈l,(f x).length=w):∀s∈cutB m f l,s.length=512:=by
 intro s hs;unfold cutB at hs;obtain ⟨p,hp,rfl⟩:=List.mem_map.1 hs;obtain ⟨h1,h2⟩:=g1g hm hp;rw[n0z,d1j _ fun x hx=>hf x (h2 x hx)];have:p.length*w≤m*w:=Nat.mul_le_mul_right w h1;omega
theorem i2t {α:Type} {w:Nat} {f:α→List UInt8} {l:List α} {j:Nat} {x:α} (hf:∀y∈l,(f y).length=w) (hx:l[j]? = some x) (z:List UInt8):∃t,(l.flatMap f++z).drop (j*w)=f x++t:=by
 have hj:=(List.getElem?_eq_some_iff.1 hx).1;have hlen:=d1j l hf;have hle:j*w≤(l.flatMap f).length:=by rw[hlen];exact Nat.mul_le_mul_right w (Nat.le_of_lt hj)
 rw[List.drop_append_of_le_length hle,s1n j l hf];have:l.drop j=x::l.drop (j+1):=by
  rw[List.drop_eq_getElem_cons hj];congr 1;rw[List.getElem?_eq_getElem hj] at hx;injection hx
 rw[this,List.flatMap_cons,List.append_assoc];exact ⟨_,rfl⟩
theorem h2g {a d r:Nat} (hr:0<r) (h1:0<d) (h2:d<r):a % r≠(a+d) % r:=by
 intro h;have h3:(a+d) % r=(a % r+d) % r:=by rw[Nat.mod_add_mod]
 have h4:=Nat.mod_lt a hr;rw[h3] at h;rcases Nat.lt_or_ge (a % r+d) r with k | k
 ·rw[Nat.mod_eq_of_lt k] at h;omega
 ·rw[Nat.mod_eq_sub_mod k,Nat.mod_eq_of_lt (a:=a % r+d-r) (b:=r) (by omega)] at h;omega
theorem j1o (lost room:Nat):∀(L:List Ev) (k:Nat) (out:List Ev) (p:Nat),(∀j,j<L.length→(lost+(k+j)) % room≠p)→(s0o lost room k L out)[p]? = out[p]?
 | [],k,out,p,_=>rfl
 | e::L,k,out,p,h=>by
  have h0:=h 0 (by simp);rw[Nat.add_zero] at h0;rw[s0o,j1o lost room L (k+1) _ p fun j hj=>by have:=h (j+1) (by simp;omega);rwa [show k+(j+1)=k+1+j by omega] at this];rw[List.getElem?_set_ne h0]
theorem j1n (lost room:Nat) (hr:0<room):∀(L:List Ev) (k:Nat) (out:List Ev) (i:Nat) (x:Ev),L.length≤room→out.length=room→L[i]? = some x→(s0o lost room k L out)[(lost+(k+i)) % room]? = some x
 | [],k,out,i,x,_,_,h=>by simp at h
 | e::L,k,out,0,x,hL,ho,h=>by
  simp at h;subst h;have hlt:=Nat.mod_lt (lost+k) hr;show (s0o lost room (k+1) L (out.set ((lost+k) % room) e))[(lost+k) % room]? = some e;rw[j1o lost room L (k+1) _ _ fun j hj => ?_]
  ·rw[List.getElem?_set_self (by omega)]
  ·have:=h2g (a:=lost+k) hr (show 0<1+j by omega) (by simp at hL;omega);rw[show lost+(k+1+j)=lost+k+(1+j) by omega];exact fun q=>this q.symm
 | e::L,k,out,i+1,x,hL,ho,h=>by
  rw[s0o,show k+(i+1)=k+1+i by omega];exact j1n lost room hr L (k+1) _ i x (by simp at hL;omega) (by simpa using ho) (by simpa using h)
theorem g2b {r:Rw} {room:Int} (h:RawOk r room) {i:Nat} {x:Ev} (hx:r.2.2[i]? = some x):(j0n r room)[(r.1.toNat+i) % room.toNat]? = some x:=by
 have h1:=h.m0;have h2:=h.len;have:=j1n r.1.toNat room.toNat (by omega) r.2.2 0 (List.replicate room.toNat e0) i x (by omega) (by simp) hx
 rwa [Nat.zero_add] at this
abbrev Rdr:=List UInt8×Bool
def rdI (st:Rdr):Int×Rdr:=(IntKind.wrap .i64 (rd st 8).1,(rd st 8).2)
def evR (st:Rdr):Ev×Rdr :=
 let a:=rdI st
 let b:=rd a.2 8
 let c:=rdI b.2
 let d:=rd c.2 1
 ((a.1,(b.1,(c.1,decide (d.1=1)))),d.2)
def slR (st:Rdr):Slo×Rdr :=
 let a:=rdI st
 let b:=rdI a.2
 let f:=evR b.2
 let l:=evR f.2
 let h:=rd l.2 8
 let i:=rd h.2 8
 let r:=rdI i.2
 let g:=rdI r.2
 let s:=rdI g.2
 ((a.1,(b.1,(f.1,(l.1,((h.1,i.1),(r.1,(g.1,s.1))))))),s.2)
theorem q0t (n:Nat) (st:Rdr):g0i (n+4) st=some (evR st):=by
 rw[y0r,a0q n st 8 8 rfl (by omega) (by omega),obs,a0q n _ 8 8 rfl (by omega) (by omega),obs,a0q n _ 8 8 rfl (by omega) (by omega),obs,a0q n _ 1 1 rfl (by omega) (by omega),obs];rfl
theorem b1t (n:Nat) (s:List UInt8):k0j (n+5) s=some (slR (s,false)).1:=by
 rw[a1r,e0n,obs,a0q (n+1) _ 8 8 rfl (by omega) (by omega),obs,a0q (n+1) _ 8 8 rfl (by omega) (by omega),obs,q0t n,obs,q0t n,obs,
  a0q (n+1) _ 8 8 rfl (by omega) (by omega),obs,a0q (n+1) _ 8 8 rfl (by omega) (by omega),obs,a0q (n+1) _ 8 8 rfl (by omega) (by omega),obs,a0q (n+1) _ 8 8 rfl (by omega) (by omega),obs,a0q (n+1) _ 8 8 rfl (by omega) (by omega),obs]
 rfl
theorem rd_n8 (v:Int) (t:List UInt8):rd (n8B v++t,false) 8=(IntKind.wrap .u64 v,(t,false)):=by
 unfold n8B n8I;rw[a1e 8];have h:=IntKind.wrap_u64 v;have:(256:Int)^8=18446744073709551616:=rfl;rw[this,Int.emod_eq_of_lt (by omega) (by omega)]
theorem e1s {v:Int} (h:I64 v) (t:List UInt8):rdI (n8B v++t,false)=(v,(t,false)):=by
 unfold rdI;rw[rd_n8];have h1:=IntKind.wrap_u64 v;have h2:=IntKind.wrap_i64 (IntKind.wrap .u64 v);have h3:=h.1;have h4:=h.2;have:IntKind.wrap .i64 (IntKind.wrap .u64 v)=v:=by omega
 rw[this]
theorem rd_u8 {v:Int} (h0:0≤v) (h1:v≤18446744073709551615) (t:List UInt8):rd (n8B v++t,false) 8=(v,(t,false)):=by rw[rd_n8,wu64 (by omega) (by omega)]
theorem rd_b1 (b:Bool) (t:List UInt8):rd (toB [if b=true then (1:Int) else 0]++t,false) 1=((if b=true then 1 else 0),(t,false)):=by
 have:=a1e 1 (if b=true then (1:Int) else 0) t;have e:beI 1 (if b=true then (1:Int) else 0)=[if b=true then (1:Int) else 0]:=by cases b<;>rfl
 rw[e] at this;rw[this];cases b<;>rfl
theorem n1y {e:Ev} (h:EvW e) (t:List UInt8):evR (s0n e++t,false)=(e,(t,false)):=by
 have es:s0n e++t=n8B e.1++(n8B e.2.1++(n8B e.2.2.1++(toB [if e.2.2.2=true then (1:Int) else 0]++t))):=by
  unfold s0n v0c n8B;simp only[l1h,List.append_assoc]
 unfold evR;rw[es,e1s h.t];dsimp only;rw[rd_u8 h.v.1 h.v.2];dsimp only;rw[e1s h.c];dsimp only;rw[rd_b1];obtain ⟨a,b,c,d⟩:=e;cases d<;>rfl
theorem slR_good {s:Slo} (h:SloW s) (t:List UInt8):slR (toB (sloI s)++t,false)=(s,(t,false)):=by
 have es:toB (sloI s)++t=n8B s.1++(n8B s.2.1++(s0n s.2.2.1++(s0n s.2.2.2.1++(n8B s.2.2.2.2.1.1++(n8B s.2.2.2.2.1.2++(n8B s.2.2.2.2.2.1++(n8B s.2.2.2.2.2.2.1++(n8B s.2.2.2.2.2.2.2++t)))))))):=by
  unfold sloI n8B s0n;simp only[l1h,List.append_assoc]
 have hw:=h.c.w;unfold slR;rw[es,e1s h.i];dsimp only;rw[e1s h.c.n];dsimp only;rw[n1y h.c.f];dsimp only;rw[n1y h.c.l];dsimp only;rw[rd_u8 hw.1.1 hw.1.2];dsimp only;rw[rd_u8 hw.2.1 hw.2.2];dsimp only;rw[e1s h.c.r];dsimp only;rw[e1s h.c.g];dsimp only;rw[e1s h.c.s]
theorem j2b {e:Ev} (h:EvW e) (t:List UInt8):(evR (f0u e++t,false)).1=e:=by
 have:f0u e++t=s0n e++(List.replicate (32-(s0n e).length) 0++t):=by unfold f0u padB;simp
 rw[this,n1y h]
theorem y1d {s:Slo} (h:SloW s) (t:List UInt8):(slR (c0k s++t,false)).1=s:=by
 have:c0k s++t=toB (sloI s)++(List.replicate (128-(toB (sloI s)).length) 0++t):=by unfold c0k padB;simp
 rw[this,slR_good h]
theorem rd8_w (st:Rdr):0≤(rd st 8).1∧(rd st 8).1≤18446744073709551615:=by
 have:=y1i st 8;have e:(256:Int)^8=18446744073709551616:=rfl;rw[e] at this;omega
theorem i64_w (x:Int):I64 (IntKind.wrap .i64 x):=by
 unfold I64;rw[IntKind.wrap_i64];omega
theorem v1l (st:Rdr):I64 (rdI st).1:=i64_w _
theorem evR_w (st:Rdr):EvW (evR st).1:=⟨v1l _,rd8_w _,v1l _⟩
theorem slR_w (st:Rdr):SloW (slR st).1:=⟨v1l _,⟨v1l _,evR_w _,evR_w _,⟨rd8_w _,rd8_w _⟩,v1l _,v1l _,v1l _⟩⟩
theorem join_l12 (n:Nat) (sep:List UInt8) (l:List (List UInt8)) (hl:l.length≤1000000) (hs:∀s∈l,s.length≤1000000):∀(rest pre:List (List UInt8)) (f:Nat) (k i:Int),l=pre++rest→i=pre.length→0≤k→k≤1000000*pre.length →
  ∃q,f0p n (f+rest.length+1) (l,sep,k,l,(l.length:Int),i,())=some (.inl (l,sep,q,()))∧0≤q∧q≤1000000000000:=by
 intro rest;induction rest with
 | nil =>
  intro pre f k i h hi h0 h1;have hlen:=congrArg List.length h;simp at hlen;rw[m0m];simp only[tfd,if_neg (idxe h hi rfl)];exact ⟨_,rfl,h0,by omega⟩
 | cons a rest ih =>
  intro pre f k i h hi h0 h1;have hlen:=congrArg List.length h;simp at hlen;have ha:=hs a (by rw[h];simp);rw[show f+(a::rest).length+1=(f+rest.length+1)+1 by simp;omega,m0m];simp only[tfd,if_pos (idx h hi rfl)];rw[c0g h hi,obs,w64 (x:=9223372036854775807-k) (by omega) (by omega),if_neg (by omega),w64 (x:=k+((a.length:Nat):Int)) (by omega) (by omega),w64 (x:=i+1) (by omega) (by omega)];exact ih (pre++[a]) f _ (i+1) (idxl h) (idxs hi) (by omega) (by simp;omega)
theorem join_l22 (n:Nat) (l:List (List UInt8)) (hl:l.length≤1000000) (hs:∀s∈l,s.length≤1000000):∀(rest pre:List (List UInt8)) (f:Nat) (b:List UInt8) (i:Int),l=pre++rest→i=pre.length→b.length≤1000000*(pre.length+1) →
  f0o (n+1) (f+rest.length+1) ([],b,l,(l.length:Int),i,())=some (.inl (b++rest.flatten,())):=by
 intro rest;induction rest with
 | nil =>
  intro pre f b i h hi hb;rw[m0l];simp only[tfd,if_neg (idxe h hi rfl)];simp
 | cons a rest ih =>
  intro pre f b i h hi hb;have hlen:=congrArg List.length h;simp at hlen;have ha:=hs a (by rw[h];simp);rw[show f+(a::rest).length+1=(f+rest.length+1)+1 by simp;omega,m0l];simp only[tfd,if_pos (idx h hi rfl)];rw[c0g h hi,obs,wst n b [] (by simp;omega),obs];dsimp only;rw[List.append_nil,wst n b a (by omega),obs];dsimp only;rw[w64 (x:=i+1) (by omega) (by omega),ih (pre++[a]) f _ (i+1) (idxl h) (idxs hi) (by simp;omega)];simp
theorem join_val (n:Nat) (l:List (List UInt8)) (hl:l.length≤1000000) (hs:∀s∈l,s.length≤1000000):strings_Join (n+2) l []=some l.flatten:=by
 rw[e1e]
 match l,hl,hs with
 | [],_,_=>rfl
 | [a],_,_ =>
  rw[tfd,if_neg (by simp),tfd,if_pos (by simp),show at? [a] (0:Int)=some a from rfl,obs];simp
 | a::b::t,hl,hs =>
  obtain ⟨L,hL⟩:∃L,L=a::b::t:=⟨_,rfl⟩;have h2:2≤L.length:=by rw[hL];simp
  rw[←hL] at hl hs ⊢;rw[tfd,if_neg (by omega),tfd,if_neg (by omega),tfd,if_neg (by simp)];obtain ⟨q,h3,h4,h5⟩:=join_l12 (n+1) [] L hl hs L [] (a0b-L.length-1) 0 0 rfl rfl (by omega) (by simp);rw[←lfu (by omega)] at h3;rw[h3,obs,b0a];dsimp only;have hg:b0u (n+1) [] q=some []:=by
   rw[i0u,s1j];rw[show (decide (([]:List UInt8).length=0)&&(decide ((0:Int)≤q)&&decide (q≤70368744177664)))=true by
    rw[Bool.and_eq_true,Bool.and_eq_true,decide_eq_true_eq,decide_eq_true_eq,decide_eq_true_eq]
    exact ⟨rfl,by omega,by omega⟩,tft]
  have ha:=hs a (by rw[hL];simp);have hat:at? L (0:Int)=some a:=by rw[hL];rfl
  rw[hg,obs,hat,obs,wst n [] a (by simp;omega),obs,tfd,if_pos (by omega)];dsimp only;have hd:List.drop 1 (List.take L.length L)=b::t:=by rw[List.take_length,hL];rfl
  have e22:=join_l22 n (b::t) (by rw[hL] at hl;simp at hl ⊢;omega) (fun s hsm=>hs s (by rw[hL];exact List.mem_cons_of_mem _ hsm)) (b::t) [] (a0b-(b::t).length-1) a 0 rfl rfl (by simp;omega);rw[←lfu (by rw[hL] at hl;simp at hl ⊢;omega)] at e22;rw[hd,List.nil_append,e22,obs,b0a];dsimp only;rw[c0d,obs,hL];simp
def nsec (k m:Nat):Nat:=(k+m-1) / m
theorem d1a (n:Nat) (c:Conf) (left:List (List UInt8)) (k m:Nat) (hm:1≤m) (hm':m≤1000) (hk:k≤100000) (hl:left.length≤1000000) (hs:∀s∈left,s.length≤1000000) :
  c0e (n+3) (c,left) (k:Int) (m:Int)=some ((left.take (nsec k m)).flatten,(c,left.drop (nsec k m))):=by
 have hq:nsec k m≤k+m:=by unfold nsec;exact Nat.le_trans (Nat.div_le_self _ _) (by omega)
 have e1:IntKind.wrap .i64 (Int.tdiv (IntKind.wrap .i64 (IntKind.wrap .i64 ((k:Int)+(m:Int))-1)) (m:Int))=((nsec k m:Nat):Int):=by
  rw[w64 (x:=(k:Int)+(m:Int)) (by omega) (by omega),w64 (x:=(k:Int)+(m:Int)-1) (by omega) (by omega),Int.tdiv_eq_ediv_of_nonneg (by omega)];have:((k:Int)+(m:Int)-1) / (m:Int)=((nsec k m:Nat):Int):=by
   unfold nsec;rw[Int.natCast_ediv];congr 1;omega
  rw[this,w64 (by omega) (by omega)]
 have e2:(if ((left.length:Nat):Int)<((nsec k m:Nat):Int) then ((left.length:Nat):Int) else ((nsec k m:Nat):Int))=((min (nsec k m) left.length:Nat):Int):=by split<;>omega
 have ht:left.take (min (nsec k m) left.length)=left.take (nsec k m):=by
  rcases Nat.le_total (nsec k m) left.length with h | h
  ·rw[Nat.min_eq_left h]
  ·rw[Nat.min_eq_right h,List.take_of_length_le (Nat.le_refl _),List.take_of_length_le h]
 have hd:left.drop (min (nsec k m) left.length)=left.drop (nsec k m):=by
  rcases Nat.le_total (nsec k m) left.length with h | h
  ·rw[Nat.min_eq_left h]
  ·rw[Nat.min_eq_right h,List.drop_of_length_le (Nat.le_refl _),List.drop_of_length_le h]
 rw[w0h];dsimp only;rw[e1,e2,tfd,if_neg (by omega),Int.toNat_natCast];have c1:(decide ((0:Int)≤((min (nsec k m) left.length:Nat):Int))&&decide (((min (nsec k m) left.length:Nat):Int)≤((left.length:Nat):Int)))=true:=by
  rw[Bool.and_eq_true,decide_eq_true_eq,decide_eq_true_eq];omega
 rw[c1,tft,List.drop_zero,ht,join_val n _ (by rw[List.length_take];omega) (fun s hsm=>hs s (List.mem_of_mem_take hsm)),obs,tfd,if_pos (by omega),tfd,if_pos (by omega),List.take_length,hd]
theorem byte_one:∀c:Fin 128,andI .u8 (c.val:Int) 128=0∧orI .u64 0 (shlI .u64 (IntKind.wrap .u64 (n0p .u8 (c.val:Int) 128)) 0)=(c.val:Int):=by decide +kernel
def UOut (r:Rdr) (o:Option ((Rdr×Unit) ⊕ (Int×Rdr))):Prop:=o=some (.inl (r,()))∨∃v k,o=some (.inr (v,(r.1.drop k,r.2)))
theorem uout_l (r:Rdr):UOut r (some (.inl (r,()))) := .inl rfl
theorem uout_r (r:Rdr) (v:Int) (k:Nat):UOut r (some (.inr (v,(r.1.drop k,r.2)))) := .inr ⟨v,k,rfl⟩
theorem uint_l3 (n:Nat) (r:Rdr) (m:Nat) (hm:m≤10) (hr:m≤r.1.length):∀(d f:Nat) (v i:Int),0≤i→i+d=m→UOut r (d0q n (f+d+1) (r,v,(m:Int),i,())):=by
 intro d;induction d with
 | zero =>
  intro f v i h0 hi;rw[c0o,tfd,if_neg (by omega)];exact .inl rfl
 | succ d ih =>
  intro f v i h0 hi;rw[show f+(d+1)+1=(f+d+1)+1 by omega,c0o,tfd,if_pos (by omega)];have hk:i.toNat<r.1.length:=by omega
  have hat:at? r.1 i=some r.1[i.toNat]:=by
   have:=c1x (l:=r.1) (i:=i.toNat) (x:=r.1[i.toNat]) (List.getElem?_eq_getElem hk)
   rwa [show ((i.toNat:Nat):Int)=i by omega] at this
  have c1:(0:Int)≤i+1:=by omega
  have c2:(i+1).toNat≤r.1.length:=by omega
  have c3:¬(7*i<0):=by omega
  rw[hat,obs];simp only[tfd,tfn,w64 (x:=7*i) (by omega) (by omega),w64 (x:=i+1) (by omega) (by omega),if_pos c1,if_pos c2,if_neg c3,List.take_length];have hrec:=fun v=>ih f v (i+1) c1 (by omega)
  repeat' split
  all_goals try (with_reducible exact hrec _)
  all_goals try (with_reducible exact uout_l r)
  all_goals exact uout_r r _ _
theorem u1j (k:Nat):(if (10:Int)<((k:Nat):Int) then (10:Int) else ((k:Nat):Int))=((min 10 k:Nat):Int):=by split<;>omega
theorem i1y (n:Nat) (r:Rdr):∃v t,c0z (n+2) r=some (v,t)∧t.1.length≤r.1.length:=by
 rw[h0s,u1j];have h:=uint_l3 (n+1) r (min 10 r.1.length) (by omega) (by omega) (min 10 r.1.length) (a0b-min 10 r.1.length-1) 0 0 (by omega) (by omega);rw[←lfu (by omega)] at h;rcases h with h | ⟨v,k,h⟩
 ·rw[h,obs,b0a];dsimp only;rw[c0q,obs];exact ⟨_,_,rfl,by simp⟩
 ·rw[h,obs,m0t];exact ⟨_,_,rfl,by simp⟩
theorem uint_one (n:Nat) {v:Nat} (h:v<128) (t:List UInt8):c0z (n+2) (UInt8.ofNat v::t,false)=some ((v:Int),(t,false)):=by
 obtain ⟨f,hf⟩:∃f,a0b=f+1:=⟨a0b-1,by unfold a0b;omega⟩;have hv:(UInt8.ofNat v).toNat=v:=by simp;omega
 obtain ⟨b1,b2⟩:=byte_one ⟨v,h⟩;dsimp only at b1 b2;rw[h0s,u1j,hf,c0o,tfd,if_pos (by simp;omega),show at? (UInt8.ofNat v::t) (0:Int)=some (UInt8.ofNat v) from rfl,obs];simp only[hv,b1];rw[show IntKind.wrap .i64 ((7:Int)*0)=0 by decide,show IntKind.wrap .i64 ((0:Int)+1)=1 by decide];simp only[b2];simp only[tfd,tfn];rw[if_neg (by omega),if_neg (by omega),if_pos trivial]
 have e:(if (v:Int)=0 then (if (0:Int)<0 then (some (.inl ((UInt8.ofNat v::t,false),())):Option ((Rdr×Unit) ⊕ (Int×Rdr))) else some (.inr ((v:Int),(t,false)))) else some (.inr ((v:Int),(t,false))))=some (.inr ((v:Int),(t,false))):=by
  rw[if_neg (show ¬(0:Int)<0 by omega)];split<;>rfl
 have c2:(1:Int).toNat≤(UInt8.ofNat v::t).length:=by simp
 simp only[if_pos (show (0:Int)≤1 by omega),if_pos c2,List.take_length]
 change a0a (if (v:Int)=0 then (if (0:Int)<0 then (some (.inl ((UInt8.ofNat v::t,false),())):Option ((Rdr×Unit) ⊕ (Int×Rdr))) else some (.inr ((v:Int),(t,false)))) else some (.inr ((v:Int),(t,false)))) _=_
 rw[e];rfl
theorem uint_128 (n:Nat) (t:List UInt8):c0z (n+2) (128::1::t,false)=some (128,(t,false)):=by
 obtain ⟨f,hf⟩:∃f,a0b=f+1+1:=⟨a0b-2,by unfold a0b;omega⟩;rw[h0s,u1j,hf,c0o,tfd,if_pos (by simp;omega),show at? ((128:UInt8)::1::t) (0:Int)=some (128:UInt8) from rfl,obs];rw[show IntKind.wrap .i64 ((7:Int)*0)=0 by decide,show IntKind.wrap .i64 ((0:Int)+1)=1 by decide];rw[tfd,if_neg (by omega),tfd,if_neg (by omega),tfn,tfd,if_neg (by decide),c0o,tfd,if_pos (by simp;omega),show at? ((128:UInt8)::1::t) (1:Int)=some (1:UInt8) from rfl,obs]
 rw[show IntKind.wrap .i64 ((7:Int)*1)=7 by decide,show IntKind.wrap .i64 ((1:Int)+1)=2 by decide];rw[tfd,if_neg (by omega),tfd,if_neg (by omega),tfn,tfd,if_pos (by decide),tfd,if_neg (by decide),tfd,if_pos (by omega),tfd,if_pos (by simp)];rw[show orI .u64 (orI .u64 0 (shlI .u64 (IntKind.wrap .u64 (n0p .u8 (((128:UInt8).toNat:Nat):Int) 128)) 0)) (shlI .u64 (IntKind.wrap .u64 (n0p .u8 (((1:UInt8).toNat:Nat):Int) 128)) 7)=128 by decide +kernel,List.take_length,obs,m0t];rfl
theorem p1k (n:Nat) {v:Nat} (h:v≤128) (t:List UInt8):c0z (n+2) (uvB v++t,false)=some ((v:Int),(t,false)):=by
 rcases Nat.lt_or_ge v 128 with k | k
 ·rw[w0v k];exact uint_one n k t
 ·obtain rfl:v=128:=by omega
  have e:uvB 128=[128,1]:=by rw[l1e (by omega),w0v (by omega)];rfl
  rw[e];exact uint_128 n t
theorem m1j (n:Nat) (s t:List UInt8) {k:Int} (h:k=s.length):d0m (n+1) (s++t,false) k=some (s,(t,false)):=by
 subst h;have e:(s.length:Int).toNat=s.length:=by omega
 rw[i0j,tff,tfd,if_neg (by omega),tfd,if_neg (by simp;omega)];rw[show (decide ((0:Int)≤(s.length:Int))&&decide ((s.length:Int)≤(((s++t).length:Nat):Int)))=true by rw[Bool.and_eq_true,decide_eq_true_eq,decide_eq_true_eq];simp;omega,tft,tfd,if_pos (by omega),tfd,if_pos (by simp),List.take_length,e,List.drop_left];simp
theorem g2h (n:Nat) (r:Rdr) (k:Int):∃s t,d0m (n+2) r k=some (s,t)∧t.1.length≤r.1.length∧s.length≤r.1.length∧(t.2=true→s=[])∧(t.2=false→(s.length:Int)=k):=by
 obtain ⟨l,b⟩:=r;rw[i0j];cases b with
 | true=>rw[tft,c0q,obs];exact ⟨_,_,rfl,by simp,by simp,fun _=>rfl,by simp⟩
 | false =>
  rw[tff,tfd];by_cases h0:k<0
  ·rw[if_pos h0,c0q,obs];exact ⟨_,_,rfl,by simp,by simp,fun _=>rfl,by simp⟩
  rw[if_neg h0,tfd];by_cases h1:(((l,false):Rdr).1.length:Int)<k
  ·rw[if_pos h1,c0q,obs];exact ⟨_,_,rfl,by simp,by simp,fun _=>rfl,by simp⟩
  dsimp only at h1 ⊢;rw[if_neg h1,show (decide ((0:Int)≤k)&&decide (k≤((l.length:Nat):Int)))=true by rw[Bool.and_eq_true,decide_eq_true_eq,decide_eq_true_eq];omega,tft,tfd,if_pos (by omega),tfd,if_pos (by omega)];refine ⟨_,_,rfl,by simp,by simp;omega,by simp,fun _ => ?_⟩;simp;omega
theorem i1z (n:Nat) (r:Rdr) (long:Int):∃s t,f0e (n+3) r long=some (s,t)∧t.1.length≤r.1.length∧s.length≤r.1.length:=by
 rw[l0n];obtain ⟨v,t,h,hl⟩:=i1y n r;rw[h,obs];simp only[tfd,c0q,obs];split
 ·exact ⟨_,_,rfl,by simp,by simp⟩
 split
 ·exact ⟨_,_,rfl,by simp,by simp⟩
 split
 ·exact ⟨_,_,rfl,by simp,by simp⟩
 obtain ⟨s,q,h1,h2,h3,_⟩:=g2h n t (IntKind.wrap .i64 v);rw[h1,obs];exact ⟨_,_,rfl,by omega,by omega⟩
theorem p1v (n:Nat) {s:List UInt8} {long:Int} (h:(s.length:Int)≤long) (hl:long≤128) (t:List UInt8) (ht:t.length≤1000000):f0e (n+3) (txB s++t,false) long=some (s,(t,false)):=by
 rw[l0n];unfold txB;rw[List.append_assoc,p1k n (by omega),obs];dsimp only;have e:(((s++t).length:Nat):Int)=(s.length:Int)+(t.length:Int):=by simp
 rw[tfd,if_neg (by omega),wu64 (x:=long) (by omega) (by omega),tfd,if_neg (by omega),e,wu64 (x:=(s.length:Int)+(t.length:Int)) (by omega) (by omega),tfd,if_neg (by omega),w64 (by omega) (by omega),m1j (n+1) s t rfl];rfl
def r1i (x:Lab):List UInt8:=txB x.1++txB x.2
theorem a1p (n:Nat):∀(d f:Nat) (r:Rdr) (out:List Lab) (v:Int),out.length+d=17→r.1.length≤1000000→(∀x∈out,x.1.length≤1000000∧x.2.length≤1000000) →
  ∃q l,m0y (n+4) (f+d+1) (r,out,v,())=some (.inl (q,(l,())))∧l.length≤17:=by
 intro d;induction d with
 | zero =>
  intro f r out v ho hr hx;rw[k0g,d0a,obs];simp only[tfd,tfn];rw[if_neg (show ¬((((out.length:Nat)):Int)≤16) by omega)];have:∀b:Bool,tif b (some (Sum.inl (r,out,()):(Rdr×List Lab×Unit) ⊕ (List Lab×Int))) (some (.inl (r,out,())))=some (.inl (r,out,())):=fun b=>by cases b<;>rfl
  rw[this];split<;>exact ⟨_,_,rfl,by omega⟩
 | succ d ih =>
  intro f r out v ho hr hx;rw[show f+(d+1)+1=(f+d+1)+1 by omega,k0g,d0a,obs,tfd];by_cases hv:0<v
  case neg=>rw[if_neg hv];exact ⟨_,_,rfl,by omega⟩
  rw[if_pos hv,tfn];obtain ⟨l,b⟩:=r;cases b with
  | true=>exact ⟨_,_,rfl,by omega⟩
  | false =>
   obtain ⟨s1,t1,h1,h2,h3⟩:=i1z (n+1) (l,false) 64;obtain ⟨s2,t2,k1,k2,k3⟩:=i1z (n+1) t1 128;dsimp only at hr h2 h3 ⊢;rw[tff,tfd,if_pos (by omega),h1,obs];dsimp only;rw[k1,obs,tfd,if_pos (by omega)];dsimp only;exact ih f t2 (out++[(s1,s2)]) _ (by simp;omega) (by omega) (fun x hxm=>by
    rcases List.mem_append.1 hxm with q | q
    ·exact hx x q
    ·rw[List.mem_singleton] at q;subst q;exact ⟨by dsimp only;omega,by dsimp only;omega⟩)
theorem h1u (n:Nat) (s:List UInt8) (h:s.length≤1000000):∃l e,y0n (n+8) s=some (l,e)∧l.length≤17:=by
 rw[f1l,e0n,obs];obtain ⟨v,t,h1,h2⟩:=i1y (n+5) (s,false);dsimp only at h2;rw[h1,obs];dsimp only;obtain ⟨q,l,h3,h4⟩:=a1p (n+3) 17 (a0b-18) t [] v rfl (by omega) (by simp);rw[show a0b-18+17+1=a0b by unfold a0b;omega] at h3;rw[h3,obs,b0a,d0a,obs];dsimp only;cases q.2 with
 | true=>exact ⟨_,_,rfl,by simp⟩
 | false =>
  rw[tff,h0u,obs,tfd];split
  ·exact ⟨_,_,rfl,by simp⟩
  rw[j0x (n+1) l,obs,tfn,tfd];split
  ·exact ⟨_,_,rfl,h4⟩
  ·exact ⟨_,_,rfl,by simp⟩
theorem of_l4 (n:Nat) {l:List Lab} (hl:∀x∈l,x.1.length≤64∧x.2.length≤128):∀(rest pre:List Lab) (f:Nat),l=pre++rest→l.length≤16 →
  m0y (n+4) (f+rest.length+1) ((rest.flatMap r1i,false),pre,(rest.length:Int),())=some (.inl (([],false),(l,()))):=by
 intro rest;induction rest with
 | nil =>
  intro pre f h hn;rw[k0g,tfd,if_neg (by simp)];rw[h,List.append_nil];rfl
 | cons a rest ih =>
  intro pre f h hn;have hlen:=congrArg List.length h;simp at hlen;obtain ⟨a1,a2⟩:=hl a (by rw[h];simp);have hr:∀r:List Lab,(∀x∈r,x.1.length≤64∧x.2.length≤128)→(r.flatMap r1i).length≤200*r.length:=by
   intro r;induction r with
   | nil=>intro _;simp
   | cons y r ihr =>
    intro hy;obtain ⟨b1,b2⟩:=hy y List.mem_cons_self;have:=ihr fun x hx=>hy x (List.mem_cons_of_mem _ hx)
    have e1:=z0l (n:=y.1.length) (by omega);have e2:=u1a (n:=y.2.length) (by omega);rw[List.flatMap_cons,List.length_append,List.length_cons];have e3:(r1i y).length≤200:=by unfold r1i txB;simp only[List.length_append];omega
    omega
  have hq:=hr rest fun x hx=>hl x (by rw[h];simp[hx])
  have t2:(txB a.2).length≤1000:=by
   have:=u1a (n:=a.2.length) (by omega);unfold txB;rw[List.length_append];omega
  rw[show f+(a::rest).length+1=(f+rest.length+1)+1 by simp;omega,k0g,tfd,if_pos (by simp),d0a,obs,tfn,tff,tfd,if_pos (by omega)];have e:(a::rest).flatMap r1i=txB a.1++(txB a.2++rest.flatMap r1i):=by rw[List.flatMap_cons,r1i,List.append_assoc]
  rw[e,p1v (n+1) (by omega) (by omega) _ (by rw[List.length_append];omega),obs];dsimp only;rw[p1v (n+1) (by omega) (by omega) _ (by omega),obs,tfd,if_pos (by omega)];dsimp only;rw[show (((a::rest).length:Nat):Int)-1=((rest.length:Nat):Int) by simp,wu64 (by omega) (by omega),ih (pre++[(a.1,a.2)]) f (by rw[h];simp) hn]
theorem m1y (n:Nat) {l:List Lab} (h:LabOk l):y0n (n+8) (labB l)=some (l,0):=by
 have hn:=h.n1;have e:labB l=uvB l.length++l.flatMap r1i:=rfl;rw[f1l,e0n,obs,e,p1k (n+5) (by omega),obs];dsimp only;have h3:=of_l4 (n+3) (o1p l none h.c) l [] (a0b-l.length-1) rfl hn;rw[←lfu (by omega)] at h3;rw[h3,obs,b0a,d0a,obs];dsimp only;rw[tff,h0u,obs,tfd,if_neg (by simp),j0x (n+1) l,if_pos h,obs];rfl
def Secs (L:List (List UInt8)):Prop:=∀s∈L,s.length=512
theorem y1f:∀ {L:List (List UInt8)},Secs L→L.flatten.length=512*L.length
 | [],_=>rfl
 | s::L,h=>by
  have:=y1f (L:=L) fun x hx=>h x (List.mem_cons_of_mem _ hx)
  rw[List.flatten_cons,List.length_append,this,h s List.mem_cons_self,List.length_cons];omega
theorem Secs.take {L:List (List UInt8)} (h:Secs L) (k:Nat):Secs (L.take k):=fun s hs=>h s (List.mem_of_mem_take hs)
theorem Secs.drop {L:List (List UInt8)} (h:Secs L) (k:Nat):Secs (L.drop k):=fun s hs=>h s (List.mem_of_mem_drop hs)
theorem Secs.le {L:List (List UInt8)} (h:Secs L):∀s∈L,s.length≤1000000:=fun s hs=>by have:=h s hs;omega
def u0q (k m:Nat) (left:List (List UInt8)):List UInt8:=(left.take (nsec k m)).flatten
theorem y1u (k:Nat) {m:Nat} (hm:1≤m):k≤m*nsec k m:=by
 have h1:=Nat.div_add_mod (k+m-1) m;have h2:=Nat.mod_lt (k+m-1) hm;unfold nsec;omega
theorem s1d {k m:Nat} {left:List (List UInt8)} (h:Secs left) (hl:nsec k m≤left.length):(u0q k m left).length=512*nsec k m:=by
 unfold u0q;rw[y1f (h.take _),List.length_take,Nat.min_eq_left hl]
abbrev Plc:=Conf×List (List UInt8)
def evAt (all:List UInt8) (lost room i:Nat):Ev:=(evR (all.drop (32*((lost % room+i) % room)),false)).1
theorem raw_l6 (n:Nat) (p:Plc) (z:Rw) (all:List UInt8) (lost room many:Nat) (mark:Int) (hr:1≤room) (hr':room≤4096) (hm:many≤room) (hall:32*room≤all.length):∀(d f:Nat) (L:List Ev) (k:Nat),k+d=many→L.length=k →
  e0j (n+5) (f+d+1) (p,((lost:Int),(mark,L)),z,all,(room:Int),(many:Int),(k:Int),())=some (.inl (p,(((lost:Int),(mark,L++(List.range' k d).map (evAt all lost room))),(z,())))):=by
 intro d;induction d with
 | zero =>
  intro f L k hk hL;rw[k0w,tfd,if_neg (by omega)];simp
 | succ d ih =>
  intro f L k hk hL;have hq:(lost % room+k) % room<room:=Nat.mod_lt _ hr;have hq0:lost % room<room:=Nat.mod_lt _ hr;have e1:Int.tmod (lost:Int) (room:Int)=((lost % room:Nat):Int):=by rw[Int.tmod_eq_emod_of_nonneg (by omega),Int.natCast_emod]
  have e2:IntKind.wrap .i64 (((lost % room:Nat):Int)+(k:Int))=((lost % room+k:Nat):Int):=by rw[w64 (by omega) (by omega)];omega
  have e3:Int.tmod ((lost % room+k:Nat):Int) (room:Int)=(((lost % room+k) % room:Nat):Int):=by rw[Int.tmod_eq_emod_of_nonneg (by omega),Int.natCast_emod]
  have e4:IntKind.wrap .i64 ((32:Int)*(((lost % room+k) % room:Nat):Int))=((32*((lost % room+k) % room):Nat):Int):=by rw[w64 (by omega) (by omega)];omega
  have e5:IntKind.wrap .i64 ((k:Int)+1)=((k+1:Nat):Int):=by rw[w64 (by omega) (by omega)];omega
  rw[show f+(d+1)+1=(f+d+1)+1 by omega,k0w,tfd,if_pos (by omega),tfd,if_neg (by omega),tfd,if_neg (by omega)];simp only[e1,e2,e3,e4,e5];rw[tfd,if_pos (by omega),tfd,Int.toNat_natCast,if_pos (by omega),e0n,obs,List.take_length,q0t (n+1),obs,tfd,if_pos (by omega)];rw[ih f _ (k+1) (by omega) (by simp[hL]),List.range'_succ,List.map_cons,List.append_assoc];rfl
def rawV (c:Conf) (lost mark many:Int) (all:List UInt8):Rw :=
 if lost<0 then (lost,(mark,[])) else if c.1<many then (lost,(mark,[])) else (lost,(mark,(List.range many.toNat).map (evAt all lost.toNat c.1.toNat)))
theorem g2n (n:Nat) {c:Conf} (h1:1≤c.1) (h2:c.1≤4096) {left:List (List UInt8)} (hs:Secs left) (hl:nsec c.1.toNat 16≤left.length) (hl':left.length≤1000000) (lost mark many:Int) (hm:0≤many) :
  n0f (n+6) (c,left) (lost,(mark,[])) many=some (rawV c lost mark many (u0q c.1.toNat 16 left),(c,left.drop (nsec c.1.toNat 16))):=by
 have hc:c.1=((c.1.toNat:Nat):Int):=by omega
 have ht:=d1a (n+2) c left c.1.toNat 16 (by omega) (by omega) (by omega) hl' hs.le;rw[←hc] at ht;rw[y0s]
 change a0a (c0e (n+5) (c,left) c.1 ((16:Nat):Int)) _=_
 rw[ht,obs];dsimp only;unfold rawV;rw[tfd];by_cases k1:lost<0
 ·rw[if_pos k1,if_pos k1]
 rw[if_neg k1,if_neg k1,tfd];by_cases k2:c.1<many
 ·rw[if_pos k2,if_pos k2]
 rw[if_neg k2,if_neg k2];have hj:=s1d hs hl;have hn:=y1u c.1.toNat (m:=16) (by omega);have:=raw_l6 n (c,left.drop (nsec c.1.toNat 16)) ((0:Int),((0:Int),[])) (u0q c.1.toNat 16 left) lost.toNat c.1.toNat many.toNat mark (by omega) (by omega) (by omega) (by omega) many.toNat (a0b-many.toNat-1) [] 0 (by omega) rfl;rw[←lfu (by omega),←hc,show ((lost.toNat:Nat):Int)=lost by omega,show ((many.toNat:Nat):Int)=many by omega] at this
 change a0a (e0j (n+5) a0b ((c,left.drop (nsec c.1.toNat 16)),(lost,(mark,[])),((0:Int),((0:Int),[])),u0q c.1.toNat 16 left,c.1,many,((0:Nat):Int),())) _=_
 rw[this,obs,b0a,List.nil_append,List.range_eq_range']
def slAt (all:List UInt8) (i:Nat):Slo:=(slR (all.drop (128*i),false)).1
theorem tier_l4 (n:Nat) (p:Plc) (all:List UInt8) (N:Nat) (hN:N≤4096) (hall:128*N≤all.length):∀(d f:Nat) (pre:List Slo),pre.length+d=N →
  d0x (n+5) (f+d+1) (p,all,pre++List.replicate d s0,(N:Int),(pre.length:Int),())=some (.inl (p,(pre++(List.range' pre.length d).map (slAt all),()))):=by
 intro d;induction d with
 | zero =>
  intro f pre hk;rw[j0o,tfd,if_neg (by omega)];simp
 | succ d ih =>
  intro f pre hk;have e4:IntKind.wrap .i64 ((128:Int)*(pre.length:Int))=((128*pre.length:Nat):Int):=by rw[w64 (by omega) (by omega)];omega
  have e5:IntKind.wrap .i64 ((pre.length:Int)+1)=((pre.length+1:Nat):Int):=by rw[w64 (by omega) (by omega)];omega
  have hg:(pre++List.replicate (d+1) s0)[pre.length]? = some s0:=by rw[List.replicate_succ];simp
  rw[show f+(d+1)+1=(f+d+1)+1 by omega,j0o,tfd,if_pos (by omega)];simp only[e4,e5];rw[tfd,if_pos (by omega),tfd,Int.toNat_natCast,if_pos (by omega),List.take_length,b1t n,obs,c1x hg,obs,Int.toNat_natCast,hg,obs];have hset:(pre++List.replicate (d+1) s0).set pre.length (slR (all.drop (128*pre.length),false)).1=(pre++[slAt all pre.length])++List.replicate d s0:=by
   rw[List.replicate_succ];simp[slAt]
  rw[hset];have:=ih f (pre++[slAt all pre.length]) (by simp;omega);rw[show (pre++[slAt all pre.length]).length=pre.length+1 by simp] at this;rw[this,List.range'_succ,List.map_cons,List.append_assoc];rfl
theorem a1g (n:Nat) (c:Conf) {left:List (List UInt8)} (hs:Secs left) (hl':left.length≤1000000) {N:Int} (h0:0≤N) (h1:N≤4096) (hl:nsec N.toNat 4≤left.length) :
  f0s (n+6) (c,left) N=some ((List.range N.toNat).map (slAt (u0q N.toNat 4 left)),(c,left.drop (nsec N.toNat 4))):=by
 obtain ⟨k,rfl⟩:∃k:Nat,N=k:=⟨N.toNat,by omega⟩;rw[Int.toNat_natCast] at hl ⊢;have ht:=d1a (n+2) c left k 4 (by omega) (by omega) (by omega) hl' hs.le;rw[w0g]
 change a0a (c0e (n+5) (c,left) (k:Int) ((4:Nat):Int)) _=_
 rw[ht,obs];dsimp only;have hj:=s1d hs hl;have hn:=y1u k (m:=4) (by omega);have:=tier_l4 n (c,left.drop (nsec k 4)) (u0q k 4 left) k (by omega) (by omega) k (a0b-k-1) [] (by simp);rw[←lfu (by omega),List.nil_append,List.nil_append] at this;rw[show (decide ((0:Int)≤(k:Int))&&(decide ((k:Int)≤(k:Int))&&decide ((k:Int)*120≤(140737488355328:Int))))=true by
  rw[Bool.and_eq_true,Bool.and_eq_true,decide_eq_true_eq,decide_eq_true_eq,decide_eq_true_eq];omega,tft,Int.toNat_natCast,List.length_replicate]
 change a0a (d0x (n+5) a0b ((c,left.drop (nsec k 4)),u0q k 4 left,List.replicate k s0,(k:Int),(([]:List Slo).length:Int),())) _=_
 rw[this,obs,b0a,List.range_eq_range'];rfl
def d1w (N:Int) (left:List (List UInt8)):List Slo:=(List.range N.toNat).map (slAt (u0q N.toNat 4 left))
theorem b2i (n:Nat) {c:Conf} (hc:Rng c) (z:Ser) {left:List (List UInt8)} (hs:Secs left) (hl':left.length≤1000000)
  (hl:nsec c.2.2.1.1.toNat 4+nsec c.2.2.1.2.1.toNat 4+nsec c.2.2.1.2.2.toNat 4≤left.length) (a:List Lab) (b:Int) (r:Rw) (o:Slo) :
  ∃q,a0s (n+6) a0b ((c,left),z,(a,(b,(r,(([],([],[])),o)))),c.2.2.1,(0:Int),()) =
   some (.inl (q,(z,((a,(b,(r,((d1w c.2.2.1.1 left,(d1w c.2.2.1.2.1 (left.drop (nsec c.2.2.1.1.toNat 4)),d1w c.2.2.1.2.2 ((left.drop (nsec c.2.2.1.1.toNat 4)).drop (nsec c.2.2.1.2.1.toNat 4)))),o)))),())))):=by
 obtain ⟨f,hf⟩:∃f,a0b=f+1+1+1+1:=⟨a0b-4,by unfold a0b;omega⟩;have h0:=hc.n0;have h1:=hc.n1;have h2:=hc.n2;have t0:=a1g n c hs hl' (N:=c.2.2.1.1) (by omega) (by omega) (by omega);have t1:=a1g n c (hs.drop (nsec c.2.2.1.1.toNat 4)) (by rw[List.length_drop];omega) (N:=c.2.2.1.2.1) (by omega) (by omega) (by rw[List.length_drop];omega);have t2:=a1g n c ((hs.drop (nsec c.2.2.1.1.toNat 4)).drop (nsec c.2.2.1.2.1.toNat 4)) (by rw[List.length_drop,List.length_drop];omega) (N:=c.2.2.1.2.2) (by omega) (by omega) (by rw[List.length_drop,List.length_drop];omega)
 have e1:IntKind.wrap .i64 ((0:Int)+1)=1:=by decide
 have e2:IntKind.wrap .i64 ((1:Int)+1)=2:=by decide
 have e3:IntKind.wrap .i64 ((2:Int)+1)=3:=by decide
 rw[hf,d0d,tfd,if_pos (by omega),tfd,if_pos rfl,t0,obs,tfd,if_pos rfl,e1];dsimp only;rw[d0d,tfd,if_pos (by omega),tfd,if_neg (by omega),tfd,if_pos rfl,t1,obs,tfd,if_neg (by omega),tfd,if_pos rfl,e2];dsimp only;rw[d0d,tfd,if_pos (by omega),tfd,if_neg (by omega),tfd,if_neg (by omega),tfd,if_pos rfl,t2,obs,tfd,if_neg (by omega),tfd,if_neg (by omega),tfd,if_pos rfl,e3];dsimp only;rw[d0d,tfd,if_neg (by omega)];exact ⟨_,rfl⟩
def v2 (l:List UInt8):Int:=valI (c0s (l.take 2))
def v8 (l:List UInt8):Int:=valI (c0s (l.take 8))
theorem rd2 {l:List UInt8} (h:2≤l.length):rd (l,false) 2=(v2 l,(l.drop 2,false)):=by
 unfold rd;rw[if_neg (by rintro (k | k);cases k;exact absurd h (by dsimp only at k;omega))];rfl
theorem rd8 {l:List UInt8} (h:8≤l.length):rd (l,false) 8=(v8 l,(l.drop 8,false)):=by
 unfold rd;rw[if_neg (by rintro (k | k);cases k;exact absurd h (by dsimp only at k;omega))];rfl
theorem l1c {l:List UInt8} (h:2≤l.length):0≤v2 l∧v2 l≤65535:=by
 have:=y1i (l,false) 2;rw[rd2 h] at this;have e:(256:Int)^2=65536:=rfl;rw[e] at this;exact ⟨this.1,by have:=this.2;dsimp only at this;omega⟩
theorem v2_of {v:Int} (h0:0≤v) (h1:v≤65535) (t:List UInt8):v2 (toB (beI 2 v)++t)=v:=by
 have:=a1e 2 v t;rw[rd2 (by simp[g0q,c0j])] at this;have e:(256:Int)^2=65536:=rfl;rw[e] at this;have:=congrArg Prod.fst this;dsimp only at this;rw[this,Int.emod_eq_of_lt h0 (by omega)]
theorem e2r (v:Int) (t:List UInt8):v8 (n8B v++t)=IntKind.wrap .u64 v:=by
 have:=rd_n8 v t;rw[rd8 (by simp[w0c])] at this;exact congrArg Prod.fst this
theorem f1s {v:Int} (h:I64 v):IntKind.wrap .i64 (IntKind.wrap .u64 v)=v:=by
 have h1:=IntKind.wrap_u64 v;have h2:=IntKind.wrap_i64 (IntKind.wrap .u64 v);have h3:=h.1;have h4:=h.2;omega
def serV (c:Conf) (ls:List Lab) (h:List UInt8) (t:List (List UInt8)):Ser :=
 (ls,(IntKind.wrap .i64 (v8 (h.drop 322)),(rawV c (IntKind.wrap .i64 (v8 (h.drop 330))) (IntKind.wrap .i64 (v8 (h.drop 338))) (v2 (h.drop 346)) (u0q c.1.toNat 16 t),
  ((d1w c.2.2.1.1 (t.drop (nsec c.1.toNat 16)),(d1w c.2.2.1.2.1 ((t.drop (nsec c.1.toNat 16)).drop (nsec c.2.2.1.1.toNat 4)),d1w c.2.2.1.2.2 (((t.drop (nsec c.1.toNat 16)).drop (nsec c.2.2.1.1.toNat 4)).drop (nsec c.2.2.1.2.1.toNat 4)))),
   (slR ((h.drop 348).take 128,false)).1))))
def need (c:Conf):Nat:=nsec c.1.toNat 16+(nsec c.2.2.1.1.toNat 4+nsec c.2.2.1.2.1.toNat 4+nsec c.2.2.1.2.2.toNat 4)
theorem e1n (n:Nat) (c:Conf) {h:List UInt8} {t:List (List UInt8)} (hh:h.length=512) (ht:Secs t) (hl:t.length≤100000) (hv:v2 h=0∨320<v2 h) :
  d0k (n+9) (c,h::t)=some (ser0,(c,t)):=by
 have hr:=l1c (l:=h) (by omega);have hS:∀s∈h::t,s.length≤1000000:=fun s hs=>by
  rcases List.mem_cons.1 hs with rfl | hs
  ·omega
  ·exact ht.le s hs
 have htk:=d1a (n+5) c (h::t) 1 1 (by omega) (by omega) (by omega) (by simp;omega) hS;rw[show nsec 1 1=1 from rfl] at htk;rw[k0v]
 change a0a (c0e (n+8) (c,h::t) ((1:Nat):Int) ((1:Nat):Int)) _=_
 rw[htk,obs,e0n,obs];dsimp only;rw[show (List.take 1 (h::t)).flatten=h by simp,a0q (n+5) _ 2 2 rfl (by omega) (by omega),rd2 (by omega),obs];dsimp only;rw[w64 (by omega) (by omega),tfd];by_cases k:v2 h=0
 ·rw[if_pos k];rfl
 ·rw[if_neg k,tfd,if_pos (by omega)];rfl
theorem j1p (n:Nat) {c:Conf} (hc:Rng c) {h:List UInt8} {t:List (List UInt8)} (hh:h.length=512) (ht:Secs t) (hl:t.length≤100000) (hN:need c≤t.length) (h0:0<v2 h) (h1:v2 h≤320)
  {ls:List Lab} {e:Int} (hlab:y0n (n+8) ((h.drop 2).take (v2 h).toNat)=some (ls,e)) :
  ∃q,d0k (n+9) (c,h::t)=some (serV c ls h t,q):=by
 unfold need at hN;have hS:∀s∈h::t,s.length≤1000000:=fun s hs=>by
  rcases List.mem_cons.1 hs with rfl | hs
  ·omega
  ·exact ht.le s hs
 have htk:=d1a (n+5) c (h::t) 1 1 (by omega) (by omega) (by omega) (by simp;omega) hS;rw[show nsec 1 1=1 from rfl] at htk;rw[k0v]
 change ∃q,a0a (c0e (n+8) (c,h::t) ((1:Nat):Int) ((1:Nat):Int)) _=_
 rw[htk,obs,e0n,obs];dsimp only;rw[show (List.take 1 (h::t)).flatten=h by simp,a0q (n+5) _ 2 2 rfl (by omega) (by omega),rd2 (by omega),obs];dsimp only;rw[w64 (by omega) (by omega),tfd,if_neg (by omega),tfd,if_neg (by omega)];have e1:h.drop 2=(h.drop 2).take 320++h.drop 322:=by
  have:=(List.take_append_drop 320 (h.drop 2)).symm
  rwa [List.drop_drop,show 2+320=322 from rfl] at this
 have l1:((h.drop 2).take 320).length=320:=by rw[List.length_take,List.length_drop];omega
 have hraw:=m1j (n+7) ((h.drop 2).take 320) (h.drop 322) (k:=320) (by omega);rw[←e1] at hraw;rw[hraw,obs];dsimp only;rw[show (decide ((0:Int)≤v2 h)&&decide (v2 h≤((((h.drop 2).take 320).length:Nat):Int)))=true by rw[Bool.and_eq_true,decide_eq_true_eq,decide_eq_true_eq];omega,tft];rw[List.take_take,Nat.min_eq_left (by omega),List.drop_zero,hlab,obs];dsimp only;rw[a0q (n+5) _ 8 8 rfl (by omega) (by omega),rd8 (by rw[List.length_drop];omega),obs];dsimp only
 rw[List.drop_drop,show 322+8=330 from rfl,a0q (n+5) _ 8 8 rfl (by omega) (by omega),rd8 (by rw[List.length_drop];omega),obs];dsimp only;rw[List.drop_drop,show 330+8=338 from rfl,a0q (n+5) _ 8 8 rfl (by omega) (by omega),rd8 (by rw[List.length_drop];omega),obs];dsimp only;rw[List.drop_drop,show 338+8=346 from rfl,a0q (n+5) _ 2 2 rfl (by omega) (by omega),rd2 (by rw[List.length_drop];omega),obs];dsimp only;have hr2:=l1c (l:=h.drop 346) (by rw[List.length_drop];omega);have e2:h.drop 348=(h.drop 348).take 128++h.drop 476:=by
  have:=(List.take_append_drop 128 (h.drop 348)).symm
  rwa [List.drop_drop,show 348+128=476 from rfl] at this
 have hraw2:=m1j (n+7) ((h.drop 348).take 128) (h.drop 476) (k:=128) (by rw[List.length_take,List.length_drop];omega);rw[←e2] at hraw2;rw[List.drop_drop,show 346+2=348 from rfl,hraw2,obs];dsimp only;rw[b1t (n+3),obs,w64 (x:=v2 (h.drop 346)) (by omega) (by omega)];have hraw:=hc.raw;rw[show (List.drop 1 (h::t))=t from rfl,g2n (n+2) (by omega) (by omega) ht (by omega) (by omega) _ _ _ hr2.1,obs];dsimp only
 obtain ⟨q,hq⟩:=b2i (n+2) hc ser0 (ht.drop (nsec c.1.toNat 16)) (by rw[List.length_drop];omega) (by rw[List.length_drop];omega) ls (IntKind.wrap .i64 (v8 (h.drop 322))) (rawV c (IntKind.wrap .i64 (v8 (h.drop 330))) (IntKind.wrap .i64 (v8 (h.drop 338))) (v2 (h.drop 346)) (u0q c.1.toNat 16 t)) (slR ((h.drop 348).take 128,false)).1;refine ⟨q,?_⟩
 change a0a (a0s (n+2+6) a0b ((c,t.drop (nsec c.1.toNat 16)),ser0,(ls,(IntKind.wrap .i64 (v8 (h.drop 322)),(rawV c (IntKind.wrap .i64 (v8 (h.drop 330))) (IntKind.wrap .i64 (v8 (h.drop 338))) (v2 (h.drop 346)) (u0q c.1.toNat 16 t),(([],([],[])),(slR ((h.drop 348).take 128,false)).1)))),c.2.2.1,(0:Int),())) _=_
 rw[hq,obs,b0a];rfl
theorem rawV_w (c:Conf) (h2:c.1≤4096) (a b m:Int) (all:List UInt8):RawW (rawV c a b m all)∧(rawV c a b m all).2.2.length≤4096:=by
 unfold rawV;split
 ·exact ⟨fun e he=>by simp at he,by simp⟩
 split
 ·exact ⟨fun e he=>by simp at he,by simp⟩
 ·refine ⟨fun e he => ?_,by simp;omega⟩;dsimp only at he;obtain ⟨i,_,rfl⟩:=List.mem_map.1 he;exact evR_w _
theorem u1g (N:Int) (left:List (List UInt8)):∀s∈d1w N left,SloW s:=fun s hs=>by
 obtain ⟨i,_,rfl⟩:=List.mem_map.1 hs;exact slR_w _
theorem d1v (N:Int) (left:List (List UInt8)):(d1w N left).length=N.toNat:=by simp[d1w]
theorem serV_w {c:Conf} (hc:Rng c) {ls:List Lab} (hl:ls.length≤17) (h:List UInt8) (t:List (List UInt8)):SerW (serV c ls h t)∧SerM (serV c ls h t):=by
 have hr:=hc.raw;have h0:=hc.n0;have h1:=hc.n1;have h2:=hc.n2;have k:=rawV_w c (by omega) (IntKind.wrap .i64 (v8 (h.drop 330))) (IntKind.wrap .i64 (v8 (h.drop 338))) (v2 (h.drop 346)) (u0q c.1.toNat 16 t);refine ⟨⟨i64_w _,k.1,⟨u1g _ _,u1g _ _,u1g _ _⟩,slR_w _⟩,⟨?_,?_,?_,?_,?_⟩⟩
 ·unfold serV;dsimp only;omega
 ·unfold serV;dsimp only;have:=k.2;omega
 ·unfold serV;dsimp only;rw[d1v];omega
 ·unfold serV;dsimp only;rw[d1v];omega
 ·unfold serV;dsimp only;rw[d1v];omega
theorem q1e (n:Nat) {c:Conf} (hc:Rng c) {p:List (List UInt8)} (hp:Secs p) (hl:p.length≤100000) (hN:need c+1≤p.length):∃x q,d0k (n+9) (c,p)=some (x,q)∧SerW x∧SerM x:=by
 obtain ⟨h,t,rfl⟩:∃h t,p=h::t:=by
  cases p with
  | nil=>simp at hN
  | cons h t=>exact ⟨h,t,rfl⟩
 have hh:h.length=512:=hp h List.mem_cons_self;have ht:Secs t:=fun s hs=>hp s (List.mem_cons_of_mem _ hs)
 simp only[List.length_cons] at hl hN;have hv:=l1c (l:=h) (by omega);by_cases hz:v2 h=0∨320<v2 h
 ·exact ⟨_,_,e1n n c hh ht (by omega) hz,f2v,f2w⟩
 ·obtain ⟨ls,e,h1,h2⟩:=h1u n ((h.drop 2).take (v2 h).toNat) (by rw[List.length_take,List.length_drop];omega);obtain ⟨q,h3⟩:=j1p n hc hh ht (by omega) (by omega) (by omega) (by omega) h1;exact ⟨_,_,h3,serV_w hc h2 h t⟩
theorem n1d {α:Type} {m:Nat} (hm:1≤m) (f:α→List UInt8) (l:List α) (rest:List (List UInt8)):u0q l.length m (cutB m f l++rest)=(cutB m f l).flatten∧(cutB m f l++rest).drop (nsec l.length m)=rest:=by
 have h:(cutB m f l).length=nsec l.length m:=h0b hm f l;exact ⟨by unfold u0q;rw[List.take_left' h],List.drop_left' h⟩
theorem g2i {c:Conf} {r:Rw} (h:RawOk r c.1) (hw:RawW r) (rest:List (List UInt8)) :
  rawV c r.1 r.2.1 (r.2.2.length:Int) (u0q c.1.toNat 16 (cutB 16 f0u (j0n r c.1)++rest))=r:=by
 have h0:=h.l0;have h1:=h.len;have h2:=h.m0;have hrl:=(x0z h).1;have hj:=(n1d (m:=16) (by omega) f0u (j0n r c.1) rest).1;rw[hrl] at hj;obtain ⟨z,hz⟩:=s1y (m:=16) (w:=32) (by omega) (by omega) (f:=f0u) _ (j0n r c.1) (Nat.le_refl _) (fun x _=>m0d x);unfold rawV;rw[if_neg (by omega),if_neg (by omega),Int.toNat_natCast,hj,hz];obtain ⟨a,b,L⟩:=r;dsimp only at *
 congr 2;apply List.ext_getElem?;intro i;rw[List.getElem?_map];rcases Nat.lt_or_ge i L.length with k | k
 ·have hi:L[i]? = some L[i]:=List.getElem?_eq_getElem k;rw[List.getElem?_range k,hi];have hg:=g2b h (i:=i) hi;dsimp only at hg;obtain ⟨t,ht⟩:=i2t (w:=32) (f:=f0u) (l:=j0n (a,b,L) c.1) (fun y _=>m0d y) hg z;have e:32*((a.toNat % c.1.toNat+i) % c.1.toNat)=(a.toNat+i) % c.1.toNat*32:=by rw[Nat.mod_add_mod,Nat.mul_comm]
  show some (evAt _ _ _ _)=_;unfold evAt;rw[e,ht,j2b (hw _ (List.getElem_mem k))]
 ·rw[List.getElem?_eq_none (by simpa using k),List.getElem?_eq_none k];rfl
theorem z0m {l:List Slo} {N:Int} (hN:(l.length:Int)=N) (hw:∀s∈l,SloW s) (rest:List (List UInt8)):d1w N (cutB 4 c0k l++rest)=l∧(cutB 4 c0k l++rest).drop (nsec N.toNat 4)=rest:=by
 subst hN;rw[Int.toNat_natCast];obtain ⟨hj,hd⟩:=n1d (m:=4) (by omega) c0k l rest;refine ⟨?_,hd⟩;obtain ⟨z,hz⟩:=s1y (m:=4) (w:=128) (by omega) (by omega) (f:=c0k) _ l (Nat.le_refl _) (fun x _=>e0y x);unfold d1w;rw[Int.toNat_natCast,hj,hz];apply List.ext_getElem?;intro i;rw[List.getElem?_map];rcases Nat.lt_or_ge i l.length with k | k
 ·have hi:l[i]? = some l[i]:=List.getElem?_eq_getElem k;rw[List.getElem?_range k,hi];obtain ⟨t,ht⟩:=i2t (w:=128) (f:=c0k) (l:=l) (fun y _=>e0y y) hi z;show some (slAt _ _)=_;unfold slAt;rw[Nat.mul_comm,ht,y1d (hw _ (List.getElem_mem k))]
 ·rw[List.getElem?_eq_none (by simpa using k),List.getElem?_eq_none k];rfl
theorem w1p {x:Ser} (hl:(labB x.1).length≤320):∃z,
  d0t x=toB (beI 2 ((labB x.1).length:Int))++(padB (labB x.1) 320++(n8B x.2.1++(n8B x.2.2.1.1++(n8B x.2.2.1.2.1++(toB (beI 2 (x.2.2.1.2.2.length:Int))++(c0k x.2.2.2.2++z))))))
  ∧ (d0t x).drop 2=padB (labB x.1) 320++(n8B x.2.1++(n8B x.2.2.1.1++(n8B x.2.2.1.2.1++(toB (beI 2 (x.2.2.1.2.2.length:Int))++(c0k x.2.2.2.2++z)))))
  ∧ (d0t x).drop 322=n8B x.2.1++(n8B x.2.2.1.1++(n8B x.2.2.1.2.1++(toB (beI 2 (x.2.2.1.2.2.length:Int))++(c0k x.2.2.2.2++z))))
  ∧ (d0t x).drop 330=n8B x.2.2.1.1++(n8B x.2.2.1.2.1++(toB (beI 2 (x.2.2.1.2.2.length:Int))++(c0k x.2.2.2.2++z)))
  ∧ (d0t x).drop 338=n8B x.2.2.1.2.1++(toB (beI 2 (x.2.2.1.2.2.length:Int))++(c0k x.2.2.2.2++z))
  ∧ (d0t x).drop 346=toB (beI 2 (x.2.2.1.2.2.length:Int))++(c0k x.2.2.2.2++z)
  ∧ (d0t x).drop 348=c0k x.2.2.2.2++z:=by
 have e0:d0t x=toB (beI 2 ((labB x.1).length:Int))++(padB (labB x.1) 320++(n8B x.2.1++(n8B x.2.2.1.1++(n8B x.2.2.1.2.1++(toB (beI 2 (x.2.2.1.2.2.length:Int))++(c0k x.2.2.2.2++List.replicate (512-(p0q x).length) 0)))))):=by
  rw[d0t,padB]
  conv=>lhs;arg 1;unfold p0q
  simp only[List.append_assoc]
 have p1:(padB (labB x.1) 320).length=320:=by rw[n0z];omega
 refine ⟨_,e0,?_⟩;have d2:=List.drop_left' (l₂:=padB (labB x.1) 320++(n8B x.2.1++(n8B x.2.2.1.1++(n8B x.2.2.1.2.1++(toB (beI 2 (x.2.2.1.2.2.length:Int))++(c0k x.2.2.2.2++List.replicate (512-(p0q x).length) 0)))))) (o1y ((labB x.1).length:Int));rw[←e0] at d2;have d322:(d0t x).drop (2+320)=n8B x.2.1++(n8B x.2.2.1.1++(n8B x.2.2.1.2.1++(toB (beI 2 (x.2.2.1.2.2.length:Int))++(c0k x.2.2.2.2++List.replicate (512-(p0q x).length) 0)))):=by rw[←List.drop_drop,d2];exact List.drop_left' p1
 have d330:(d0t x).drop (2+320+8)=n8B x.2.2.1.1++(n8B x.2.2.1.2.1++(toB (beI 2 (x.2.2.1.2.2.length:Int))++(c0k x.2.2.2.2++List.replicate (512-(p0q x).length) 0))):=by rw[←List.drop_drop,d322];exact List.drop_left' (w0c _)
 have d338:(d0t x).drop (2+320+8+8)=n8B x.2.2.1.2.1++(toB (beI 2 (x.2.2.1.2.2.length:Int))++(c0k x.2.2.2.2++List.replicate (512-(p0q x).length) 0)):=by rw[←List.drop_drop,d330];exact List.drop_left' (w0c _)
 have d346:(d0t x).drop (2+320+8+8+8)=toB (beI 2 (x.2.2.1.2.2.length:Int))++(c0k x.2.2.2.2++List.replicate (512-(p0q x).length) 0):=by rw[←List.drop_drop,d338];exact List.drop_left' (w0c _)
 have d348:(d0t x).drop (2+320+8+8+8+2)=c0k x.2.2.2.2++List.replicate (512-(p0q x).length) 0:=by rw[←List.drop_drop,d346];exact List.drop_left' (o1y _)
 exact ⟨d2,d322,d330,d338,d346,d348⟩
theorem k1u:zsec.length=512:=List.length_replicate ..
theorem prt16 {x:Int} (h:0≤x):prt x 16=((nsec x.toNat 16:Nat):Int):=by unfold prt nsec;omega
theorem prt4 {x:Int} (h:0≤x):prt x 4=((nsec x.toNat 4:Nat):Int):=by unfold prt nsec;omega
theorem m1r {c:Conf} (hc:Rng c):(plc c).toNat=need c+1:=by
 have hr:=hc.raw;have h0:=hc.n0;have h1:=hc.n1;have h2:=hc.n2;unfold plc need;rw[prt16 (by omega),prt4 (by omega),prt4 (by omega),prt4 (by omega)];omega
theorem s0p (n:Nat) {c:Conf} {x:Ser} (hc:OkC c) (hw:SerW x) (h:x=ser0∨SerOk c x):∃q,d0k (n+9) (c,c0f c x)=some (x,q):=by
 have hp:=j0b hc.rng;have hn:=m1r hc.rng;by_cases h0:x=ser0
 ·unfold c0f;rw[if_pos h0,hn,List.replicate_succ,h0];have hz:v2 zsec=0:=by decide +kernel
  exact ⟨_,e1n n c k1u (fun s hs=>by rw[(List.mem_replicate.1 hs).2,k1u]) (by rw[List.length_replicate];omega) (.inl hz)⟩
 have hs:SerOk c x:=h.resolve_left h0;have hlab:=f1m hs.lab;have hln:=hs.raw.len;have hm:=hs.raw.m1;have hrd:=x0z hs.raw;obtain ⟨z,e0,d2,d322,d330,d338,d346,d348⟩:=w1p hlab;have hlen:1≤(labB x.1).length:=by
  unfold labB;rw[List.length_append,z0l (by have:=hs.lab.n1;omega)];omega
 have hv:v2 (d0t x)=((labB x.1).length:Int):=by rw[e0];exact v2_of (by omega) (by omega) _
 have hlbl:((d0t x).drop 2).take (v2 (d0t x)).toNat=labB x.1:=by
  rw[d2,hv,Int.toNat_natCast,padB,List.append_assoc,List.take_left]
 unfold c0f;rw[if_neg h0];have c1:=h0b (m:=16) (by omega) f0u (j0n x.2.2.1 c.1);have c2:=h0b (m:=4) (by omega) c0k x.2.2.2.1.1;have c3:=h0b (m:=4) (by omega) c0k x.2.2.2.1.2.1;have c4:=h0b (m:=4) (by omega) c0k x.2.2.2.1.2.2;have f0:=hs.fold.n0;have f1:=hs.fold.n1;have f2:=hs.fold.n2;have ht:=u1b hs;have hT:Secs (cutB 16 f0u (j0n x.2.2.1 c.1)++(cutB 4 c0k x.2.2.2.1.1++(cutB 4 c0k x.2.2.2.1.2.1++cutB 4 c0k x.2.2.2.1.2.2))):=by
  intro s hs;rcases List.mem_append.1 hs with q | hs
  ·exact o0g (m:=16) (w:=32) (by omega) (by omega) (fun y _=>m0d y) s q
  rcases List.mem_append.1 hs with q | hs
  ·exact o0g (m:=4) (w:=128) (by omega) (by omega) (fun y _=>e0y y) s q
  rcases List.mem_append.1 hs with q | q
  ·exact o0g (m:=4) (w:=128) (by omega) (by omega) (fun y _=>e0y y) s q
  ·exact o0g (m:=4) (w:=128) (by omega) (by omega) (fun y _=>e0y y) s q
 have hL:(cutB 16 f0u (j0n x.2.2.1 c.1)++(cutB 4 c0k x.2.2.2.1.1++(cutB 4 c0k x.2.2.2.1.2.1++cutB 4 c0k x.2.2.2.1.2.2))).length=need c:=by
  simp only[List.length_append,c1,c2,c3,c4,hrd.1];unfold need nsec;rw[←f0,←f1,←f2];simp only[Int.toNat_natCast];omega
 obtain ⟨q,hq⟩:=j1p n hc.rng (a1y hlab) hT (by omega) (by omega) (by omega) (by omega) (ls:=x.1) (e:=0) (by rw[hlbl];exact m1y n hs.lab);refine ⟨q,?_⟩;rw[hq];have t1:=g2i hs.raw hw.raw (cutB 4 c0k x.2.2.2.1.1++(cutB 4 c0k x.2.2.2.1.2.1++cutB 4 c0k x.2.2.2.1.2.2));have j1:=(n1d (m:=16) (by omega) f0u (j0n x.2.2.1 c.1) (cutB 4 c0k x.2.2.2.1.1++(cutB 4 c0k x.2.2.2.1.2.1++cutB 4 c0k x.2.2.2.1.2.2))).2;rw[hrd.1] at j1;have t2:=z0m f0 hw.trs.a (cutB 4 c0k x.2.2.2.1.2.1++cutB 4 c0k x.2.2.2.1.2.2)
 have t3:=z0m f1 hw.trs.b (cutB 4 c0k x.2.2.2.1.2.2);have t4:=z0m f2 hw.trs.c [];rw[List.append_nil] at t4;have k0:I64 x.2.2.1.1:=by have:=hs.raw.l0;have:=hs.raw.l1;unfold I64;omega
 have k1:I64 x.2.2.1.2.1:=by
  by_cases hz:x.2.2.1.1=0
  ·rw[hs.raw.z hz];unfold I64;omega
  ·obtain ⟨p1,p2,p3⟩:=hs.raw.p hz;have m0:=hs.raw.m0;cases hL:x.2.2.1.2.2 with
   | nil=>rw[hL] at p1;simp at p1;omega
   | cons e L =>
    have:=p3 e (by rw[hL];rfl);have he:=(hw.raw e (by rw[hL];simp)).t;unfold I64 at he ⊢;omega
 have o:=y1d hw.opn [];rw[List.append_nil] at o;unfold serV;rw[d322,d330,d338,d346,d348,e2r,e2r,e2r,v2_of (by omega) (by omega),f1s hw.last,f1s k0,f1s k1,t1,j1,t2.1,t2.2,t3.1,t3.2,t4.1,List.take_left' (e0y _),o]
theorem m0w {c:Conf} {x:Ser} (hc:Rng c) (h:x=ser0∨SerOk c x):Secs (c0f c x)∧(c0f c x).length=(plc c).toNat:=by
 have hn:=m1r hc;unfold c0f;by_cases h0:x=ser0
 ·rw[if_pos h0];exact ⟨fun s hs=>by rw[(List.mem_replicate.1 hs).2,k1u],List.length_replicate ..⟩
 have hs:SerOk c x:=h.resolve_left h0;rw[if_neg h0];have c1:=h0b (m:=16) (by omega) f0u (j0n x.2.2.1 c.1);have c2:=h0b (m:=4) (by omega) c0k x.2.2.2.1.1;have c3:=h0b (m:=4) (by omega) c0k x.2.2.2.1.2.1;have c4:=h0b (m:=4) (by omega) c0k x.2.2.2.1.2.2;have f0:=hs.fold.n0;have f1:=hs.fold.n1;have f2:=hs.fold.n2;have hrd:=x0z hs.raw;constructor
 ·intro s hs';rcases List.mem_cons.1 hs' with q | hs'
  ·rw[q];exact a1y (f1m hs.lab)
  rcases List.mem_append.1 hs' with q | hs'
  ·exact o0g (m:=16) (w:=32) (by omega) (by omega) (fun y _=>m0d y) s q
  rcases List.mem_append.1 hs' with q | hs'
  ·exact o0g (m:=4) (w:=128) (by omega) (by omega) (fun y _=>e0y y) s q
  rcases List.mem_append.1 hs' with q | q
  ·exact o0g (m:=4) (w:=128) (by omega) (by omega) (fun y _=>e0y y) s q
  ·exact o0g (m:=4) (w:=128) (by omega) (by omega) (fun y _=>e0y y) s q
 ·rw[hn,List.length_cons];simp only[List.length_append,c1,c2,c3,c4,hrd.1];unfold need nsec;rw[←f0,←f1,←f2];simp only[Int.toNat_natCast];omega
theorem whole_l (n:Nat) {g:(List UInt8×Unit)→Option Bool} (hg:∀s,g (s,())=some (!(decide ((s.length:Int)=512)))) (l:List (List UInt8)) (hl:l.length≤1000000):∀(rest pre:List (List UInt8)) (f:Nat) (i:Int),l=pre++rest→i=pre.length→rest.length<f →
  (Secs rest∧c0t n f (l,g,(l.length:Int),i,())=some (.inl ()))∨(¬Secs rest∧∃k,0≤k∧c0t n f (l,g,(l.length:Int),i,())=some (.inr k)):=by
 intro rest;induction rest with
 | nil =>
  intro pre f i h hi hf;obtain ⟨f,rfl⟩:=w0k hf;rw[h0y,tfd,if_neg (idxe h hi rfl)];exact .inl ⟨fun s hs=>by simp at hs,rfl⟩
 | cons a rest ih =>
  intro pre f i h hi hf;obtain ⟨f,rfl⟩:=w0k hf;have hlen:=congrArg List.length h;simp at hlen hf;rw[h0y,tfd,if_pos (idx h hi rfl),c0g h hi,obs,hg,obs,tfn,tfd];by_cases ha:(a.length:Int)=512
  ·rw[if_pos ha,w64 (by omega) (by omega)];rcases ih (pre++[a]) f (i+1) (idxl h) (idxs hi) (by omega) with ⟨q1,q2⟩ | ⟨q1,k,q2,q3⟩
   ·refine .inl ⟨fun s hs => ?_,q2⟩;rcases List.mem_cons.1 hs with rfl | hs
    ·omega
    ·exact q1 s hs
   ·exact .inr ⟨fun q=>q1 fun s hs=>q s (List.mem_cons_of_mem _ hs),k,q2,q3⟩
  ·rw[if_neg ha];exact .inr ⟨fun q=>ha (by have:=q a List.mem_cons_self;omega),i,by omega,rfl⟩
theorem e2o (n:Nat) (l:List (List UInt8)) (hl:l.length≤1000000):w0e (n+4) l=some (!(decide (l=[])) && @decide (Secs l) (Classical.propDecidable _)):=by
 rw[i1d,tfd];by_cases h0:l=[]
 ·subst h0;rfl
 have hp:0<(l.length:Int):=by
  cases l with
  | nil=>exact absurd rfl h0
  | cons a t=>simp
 rw[if_pos hp,o0r,s0d,decide_eq_false h0];have hg:∀s:List UInt8,(fun y0:List UInt8×Unit=>l0s (n+3) y0.1) (s,())=some (!(decide ((s.length:Int)=512))):=fun s=>c1r _ s
 rcases whole_l (n+1) (g:=fun y0=>l0s (n+3) y0.1) hg l hl l [] a0b 0 rfl rfl (by unfold a0b;omega) with ⟨q1,q2⟩ | ⟨q1,k,q2,q3⟩
 ·rw[q2,@decide_eq_true _ (Classical.propDecidable _) q1];rfl
 ·rw[q3,@decide_eq_false _ (Classical.propDecidable _) q1,obs,m0t,obs,obs,decide_eq_true q2];rfl
theorem strs_l (n:Nat) (a b:List (List UInt8)) (hL:a.length≤1000000000000):∀(ra rb pa pb:List (List UInt8)) (f:Nat) (i:Int),a=pa++ra→b=pb++rb→pa.length=pb.length→ra.length=rb.length→i=pa.length→ra.length<f →
  g0a n f (a,b,(a.length:Int),i,())=some (if ra=rb then .inl () else .inr false):=by
 intro ra;induction ra with
 | nil =>
  intro rb pa pb f ix ha hb hp hr hi hf;obtain ⟨f,rfl⟩:=w0k hf;have e:rb=[]:=List.length_eq_zero_iff.1 (by simpa using hr.symm);subst e;rw[k0q,decide_eq_false (idxe ha hi rfl),tff,if_pos rfl]
 | cons x ra ih =>
  intro rb pa pb f ix ha hb hp hr hi hf;obtain ⟨f,rfl⟩:=w0k hf;cases rb with
  | nil=>simp at hr
  | cons y rb =>
   have hlen:=congrArg List.length ha;simp at hlen hf;rw[k0q,decide_eq_true (idx ha hi rfl),tft,c0g ha hi,c0g hb (by omega)];simp only[obs];rw[w64 (x:=ix+1) (by omega) (by omega),tfn];by_cases h:x=y
   ·subst h;rw[beq_self_eq_true,tft,ih rb (pa++[x]) (pb++[x]) f (ix+1) (idxl ha) (idxl hb) (by simp;omega) (by simpa using hr) (idxs hi) (by omega)];simp
   ·rw[if_neg (by simp[h]),beq_eq_false_iff_ne.2 h,tff]
theorem y1a (n:Nat) (a b:List (List UInt8)) (hL:a.length≤1000000000000):i0x (n+1) a b=some (decide (a=b)):=by
 rw[x0s,tfn,tfd];by_cases h:a.length=b.length
 ·rw[if_pos (by omega),strs_l n a b hL a b [] [] a0b 0 rfl rfl rfl h rfl (by unfold a0b;omega),obs];by_cases k:a=b
  ·rw[if_pos k,decide_eq_true k];rfl
  ·rw[if_neg k,decide_eq_false k];rfl
 ·rw[if_neg (by omega),decide_eq_false (fun k=>h (by rw[k]))]
theorem g1e {α β:Type} {m:Nat} (hm:1≤m) (g:α→List β):∀l:List α,(∀x∈l,(g x).length=m)→d0b (l.flatMap g).length m (l.flatMap g)=l.map g
 | [],_=>rfl
 | x::l,h=>by
  have hx:=h x List.mem_cons_self;have ih:=g1e hm g l fun y hy=>h y (List.mem_cons_of_mem _ hy)
  rw[List.flatMap_cons,List.map_cons,←ih];cases hg:g x with
  | nil=>rw[hg] at hx;simp at hx;omega
  | cons y t =>
   rw[hg] at hx;have e:(y::t++l.flatMap g).length=(t++l.flatMap g).length+1:=rfl;rw[e,List.cons_append,c1g,←List.cons_append,List.take_left' hx,List.drop_left' hx,c1f hm (by simp)]
theorem q1i (n:Nat) {c:Conf} (hc:OkC c) (l:List (List UInt8)) (z:Sta):∀(xs:List Ser) (s:Sta),(∀x∈xs,SerW x∧(x=ser0∨SerOk c x))→s.2.2.2.length+xs.length≤10000000 →
  g0k (n+9) ((xs.map (c0f c)).map fun p=>(p,())) (l,z,c,s,())=some (l,z,c,(s.1,(s.2.1,(s.2.2.1,s.2.2.2++xs))),())
 | [],s,_,_=>by rw[List.append_nil];exact s0a _ _
 | x::xs,s,h,hl=>by
  obtain ⟨h1,h2⟩:=h x List.mem_cons_self;obtain ⟨q,hq⟩:=s0p n hc h1 h2;simp only[List.length_cons] at hl;rw[List.map_cons,List.map_cons,p0p,hq,obs,tfd,if_pos (by omega),obs];rw[q1i n hc l z xs _ (fun y hy=>h y (List.mem_cons_of_mem _ hy)) (by simp;omega)];simp
theorem q1h (n:Nat) {c:Conf} (hc:Rng c) (l:List (List UInt8)) (z:Sta):∀(P:List (List (List UInt8))) (s:Sta),(∀p∈P,Secs p∧p.length=(plc c).toNat)→s.2.2.2.length+P.length≤10000000→(∀x∈s.2.2.2,SerW x∧SerM x) →
  ∃L,g0k (n+9) (P.map fun p=>(p,())) (l,z,c,s,())=some (l,z,c,(s.1,(s.2.1,(s.2.2.1,L))),())∧L.length=s.2.2.2.length+P.length∧∀x∈L,SerW x∧SerM x
 | [],s,_,_,hs=>⟨s.2.2.2,s0a _ _,rfl,hs⟩
 | p::P,s,h,hl,hs=>by
  obtain ⟨h1,h2⟩:=h p List.mem_cons_self;have hn:=m1r hc;have hp:=j0b hc;obtain ⟨x,q,hq,w1,w2⟩:=q1e n hc h1 (by omega) (by omega);simp only[List.length_cons] at hl;obtain ⟨L,k1,k2,k3⟩:=q1h n hc l z P (s.1,(s.2.1,(s.2.2.1,s.2.2.2++[x]))) (fun y hy=>h y (List.mem_cons_of_mem _ hy)) (by simp;omega) (fun y hy=>by
   rcases List.mem_append.1 hy with q | q
   ·exact hs y q
   ·rw[List.mem_singleton] at q;subst q;exact ⟨w1,w2⟩)
  refine ⟨L,?_,by rw[k2];simp;omega,k3⟩;rw[List.map_cons,p0p,hq,obs,tfd,if_pos (by omega),obs];exact k1
theorem a1x {α β:Type} {m:Nat} {g:α→List β}:∀l:List α,(∀x∈l,(g x).length=m)→(l.flatMap g).length=l.length*m
 | [],_=>by simp
 | x::l,h=>by
  rw[List.flatMap_cons,List.length_append,h x List.mem_cons_self,a1x l fun y hy=>h y (List.mem_cons_of_mem _ hy),List.length_cons,Nat.add_mul];omega
theorem u1n (s:Sta):∃z,f0z s=(f1g++toB (bts s.1))++(n8B s.2.1++(n8B (s.2.2.1+1)++z)):=by
 refine ⟨List.replicate (512-(e1c s).length) 0,?_⟩;unfold f0z padB
 conv=>lhs;arg 1;unfold e1c
 simp only[List.append_assoc]
theorem z0i {s:Sta} (hs:StaOk s):Secs (allB s)∧(allB s).length=1+s.2.2.2.length*(plc s.1).toNat∧∀x∈s.2.2.2,(c0f s.1 x).length=(plc s.1).toNat:=by
 have hr:∀x∈s.2.2.2,x=ser0∨SerOk s.1 x:=fun x hx=>by
  obtain ⟨i,hi⟩:=List.getElem?_of_mem hx;exact p0f (hs.right i x hi)
 have hp:∀x∈s.2.2.2,(c0f s.1 x).length=(plc s.1).toNat:=fun x hx=>(m0w hs.whole.1.rng (hr x hx)).2
 refine ⟨fun y hy => ?_,?_,hp⟩
 ·rcases List.mem_cons.1 hy with rfl | hy
  ·exact a2q s
  ·obtain ⟨x,hx,hxy⟩:=List.mem_flatMap.1 hy;exact (m0w hs.whole.1.rng (hr x hx)).1 y hxy
 ·unfold allB;rw[List.length_cons,a1x _ hp];omega
open Classical in
theorem y0t (n:Nat) {l:List (List UInt8)} (hl:l.length≤1000000):r0i (n+17) l =
  if h:∃a t,l=a::t∧Secs l then
   (let a:=h.choose
    let S:=(a.take 64).drop 8
    @ite _ (OkC (cfg S)∧Full S∧(l.length:Int)-1=(cfg S).2.2.2.1*plc (cfg S)) (Classical.propDecidable _)
     (a0a (g0k (n+16) (((d0b (l.length-1) (plc (cfg S)).toNat (l.drop 1)).map fun p=>(p,()))) (l,sta0,cfg S,(cfg S,(IntKind.wrap .i64 (v8 (a.drop 64)),(IntKind.wrap .i64 (IntKind.wrap .i64 (v8 (a.drop 72))-1),[]))),())) fun r10 =>
      a0a (g0l (n+16) r10.2.2.2.1) fun r11=>tif (!(decide (r11.2=(0:Int)))) (some (sta0,4)) (a0a (i0x (n+16) r10.1 r11.1) fun r12=>tif (!r12) (some (sta0,4)) (some (r10.2.2.2.1,0))))
     (some (sta0,4)))
  else some (sta0,4):=by
 rw[w1h,e2o (n+12) l hl,obs,tfn];by_cases h:∃a t,l=a::t∧Secs l
 case neg =>
  rw[dif_neg h];have:(!(decide (l=[])) && @decide (Secs l) (Classical.propDecidable _))=false:=by
   cases l with
   | nil=>rfl
   | cons a t=>rw[@decide_eq_false _ (Classical.propDecidable _) (fun q=>h ⟨a,t,rfl,q⟩),Bool.and_false]
  rw[this,tff];rfl
 rw[dif_pos h];obtain ⟨t,hlt,hS⟩:=h.choose_spec;generalize h.choose=a at hlt ⊢;have hne:l≠[]:=by rw[hlt];simp
 have ha:a.length=512:=hS a (by rw[hlt];simp);have hat:at? l (0:Int)=some a:=by rw[hlt];rfl
 have hlen:1≤l.length:=by rw[hlt];simp
 rw[decide_eq_false hne,@decide_eq_true _ (Classical.propDecidable _) hS,Bool.not_false,Bool.and_self,tft,hat,obs,
  show (true&&decide ((64:Int)≤((a.length:Nat):Int)))=true by rw[Bool.true_and,decide_eq_true_eq];omega,tft]
 dsimp only;by_cases hr:OkC (cfg ((a.take 64).drop 8))∧Full ((a.take 64).drop 8)
 case neg =>
  rw[read_no (n+12) hr,obs,if_neg (fun q=>hr ⟨q.1,q.2.1⟩)];rfl
 rw[read_yes (n+12) hr.1 hr.2,obs];dsimp only;have hp:=j0b hr.1.rng;have hcap:=hr.1.rng.cap;have m0:0≤(cfg ((a.take 64).drop 8)).2.2.2.1*plc (cfg ((a.take 64).drop 8)):=Int.mul_nonneg (by omega) (by omega);have m1:(cfg ((a.take 64).drop 8)).2.2.2.1*plc (cfg ((a.take 64).drop 8))≤65536*20000:=Int.mul_le_mul hcap.2 hp.2 (by omega) (by omega);rw[decide_eq_true (rfl:(0:Int)=0),Bool.not_true,tff,(p1a (n+12) hr.1).1,obs,w64 (x:=((l.length:Nat):Int)-1) (by omega) (by omega),w64 (x:=(cfg ((a.take 64).drop 8)).2.2.2.1*plc (cfg ((a.take 64).drop 8))) (by omega) (by omega),tfn,tfd]
 by_cases hc:(l.length:Int)-1=(cfg ((a.take 64).drop 8)).2.2.2.1*plc (cfg ((a.take 64).drop 8))
 case neg=>rw[if_neg hc,if_neg (fun q=>hc q.2.2)];rfl
 rw[if_pos hc,if_pos ⟨hr.1,hr.2,hc⟩,obs,tfd,if_pos (by omega),List.take_length,e0n,obs,a0q (n+13) _ 8 8 rfl (by omega) (by omega),rd8 (by rw[List.length_drop];omega),obs];dsimp only;rw[List.drop_drop,show 64+8=72 from rfl,a0q (n+13) _ 8 8 rfl (by omega) (by omega),rd8 (by rw[List.length_drop];omega),obs,tfd,if_pos hlen,obs,List.take_length,x0u];have hpl:plc (cfg ((a.take 64).drop 8))=(((plc (cfg ((a.take 64).drop 8))).toNat:Nat):Int):=by omega
 have hch:=g1f (l.drop 1) (plc (cfg ((a.take 64).drop 8))).toNat (by omega) (by rw[List.length_drop];omega);rw[←hpl,List.length_drop] at hch;rw[hch,obs];rfl
theorem i1g (n:Nat) {s:Sta} (hw:StaW s) (hs:StaOk s) (hl:(allB s).length≤1000000):r0i (n+17) (allB s)=some (s,0):=by
 obtain ⟨h1,h2,h3⟩:=z0i hs;have hc:=hs.whole.1;have hcl:=hs.whole.2;have hp:=j0b hc.rng;have hk:=hs.clock;have hex:∃a t,allB s=a::t∧Secs (allB s):=⟨_,_,rfl,h1⟩;rw[y0t n hl,dif_pos hex];have hch:hex.choose=f0z s:=by
  obtain ⟨t,ht,_⟩:=hex.choose_spec;unfold allB at ht;injection ht with q;exact q.symm
 rw[hch];obtain ⟨z,hz⟩:=u1n s;have l8:f1g.length=8:=rfl;have l56:=v0q s.1;have l64:(f1g++toB (bts s.1)).length=64:=by rw[List.length_append,l8,l56]
 have e1:((f0z s).take 64).drop 8=toB (bts s.1):=by rw[hz,List.take_left' l64,List.drop_left' l8]
 have e2:(f0z s).drop 64=n8B s.2.1++(n8B (s.2.2.1+1)++z):=by rw[hz,List.drop_left' l64]
 have e3:(f0z s).drop 72=n8B (s.2.2.1+1)++z:=by
  rw[show 72=64+8 from rfl,←List.drop_drop,e2,List.drop_left' (w0c _)]
 obtain ⟨c1,c2⟩:=k2d hc.rng;dsimp only
 rw [e1, c1, if_pos ⟨hc, c2, by rw [h2, ← hcl]; have : plc s.1 = (((plc s.1).toNat : Nat) : Int) := by omega
                                rw[Int.natCast_add,Int.natCast_mul,←this];omega⟩,e2,e3,e2r,e2r]
 have i1:IntKind.wrap .i64 (IntKind.wrap .u64 s.2.1)=s.2.1:=by
  obtain ⟨k1,_⟩:=hk;exact f1s (by unfold u0v at k1;unfold I64;omega)
 have i2:IntKind.wrap .i64 (IntKind.wrap .i64 (IntKind.wrap .u64 (s.2.2.1+1))-1)=s.2.2.1:=by
  obtain ⟨_,k,_⟩:=hk;rcases k with k | ⟨k1,k2⟩
  ·rw[k];decide
  ·rw[f1s (by unfold I64;omega),w64 (by omega) (by omega)];omega
 rw[i1,i2];have hd:(allB s).drop 1=s.2.2.2.flatMap (c0f s.1):=rfl;have hdl:(allB s).length-1=(s.2.2.2.flatMap (c0f s.1)).length:=rfl;rw[hd,hdl,g1e (by omega) (c0f s.1) s.2.2.2 h3];have h11:=q1i (n+7) hc (allB s) sta0 s.2.2.2 (s.1,(s.2.1,(s.2.2.1,[]))) (fun x hx=>by
  obtain ⟨i,hi⟩:=List.getElem?_of_mem hx
  exact ⟨(hw.ser x hx).1,p0f (hs.right i x hi)⟩) (by have:=hs.whole.len;dsimp only;rw[List.length_nil];omega)
 rw[h11,obs];dsimp only;rw[List.nil_append]
 change a0a (g0l (n+16) s) _=_
 rw[b1j n hw,if_pos hs,obs];dsimp only;rw[decide_eq_true (rfl:(0:Int)=0),Bool.not_true,tff,y1a (n+15) _ _ (by omega),decide_eq_true rfl,obs];rfl
theorem n1g (n:Nat) {l:List (List UInt8)} (hl:l.length≤1000000) (h:¬ ∃s,StaW s∧StaOk s∧allB s=l):r0i (n+17) l=some (sta0,4):=by
 rw[y0t n hl];split
 case isFalse=>rfl
 rename_i hex;obtain ⟨t,ht,hS⟩:=hex.choose_spec;generalize hex.choose=a at ht ⊢;dsimp only;split
 case isFalse=>rfl
 rename_i hr;obtain ⟨hc,hf,hn⟩:=hr;have hp:=j0b hc.rng;have hcap:=hc.rng.cap;obtain ⟨k,hk⟩:∃k:Nat,(cfg ((a.take 64).drop 8)).2.2.2.1=k:=⟨_,(Int.toNat_of_nonneg (by omega)).symm⟩;have hpl:plc (cfg ((a.take 64).drop 8))=(((plc (cfg ((a.take 64).drop 8))).toNat:Nat):Int):=by omega
 generalize hm:(plc (cfg ((a.take 64).drop 8))).toNat=m at hpl;have hlk:(l.drop 1).length=k*m:=by
  rw[hk,hpl,←Int.natCast_mul] at hn;rw[List.length_drop];omega
 have hP:∀p∈d0b (l.drop 1).length m (l.drop 1),Secs p∧p.length=(plc (cfg ((a.take 64).drop 8))).toNat:=fun p hpm=>by
  obtain ⟨i,hi⟩:=List.getElem?_of_mem hpm;rw[g0p (by omega) _ _ (Nat.le_refl _),hlk] at hi;by_cases hb:i*m<k*m
  ·rw[if_pos hb] at hi;injection hi with hi;subst hi;have hik:i<k:=Nat.lt_of_mul_lt_mul_right hb;have hle:(i+1)*m≤k*m:=Nat.mul_le_mul_right m hik;rw[Nat.add_mul] at hle;exact ⟨((hS.drop 1).drop _).take _,by rw[hm,List.length_take,List.length_drop,hlk];omega⟩
  ·rw[if_neg hb] at hi;cases hi
 have hPl:(d0b (l.drop 1).length m (l.drop 1)).length≤1000000:=by
  have q1:=p0w (m:=m) (by omega) (l.drop 1);have q2:(l.drop 1).length=l.length-1:=List.length_drop ..;omega
 obtain ⟨L,h1,h2,h3⟩:=q1h (n+7) hc.rng l sta0 (d0b (l.drop 1).length m (l.drop 1)) (cfg ((a.take 64).drop 8),(IntKind.wrap .i64 (v8 (a.drop 64)),(IntKind.wrap .i64 (IntKind.wrap .i64 (v8 (a.drop 72))-1),[]))) hP (by dsimp only;rw[List.length_nil];omega) (fun x hx=>by simp at hx);have hdl:l.length-1=(l.drop 1).length:=by rw[List.length_drop]
 rw[hdl,h1,obs];dsimp only at h2 ⊢;have hw:StaW (cfg ((a.take 64).drop 8),(IntKind.wrap .i64 (v8 (a.drop 64)),(IntKind.wrap .i64 (IntKind.wrap .i64 (v8 (a.drop 72))-1),L))):=⟨by dsimp only;rw[h2,List.length_nil];omega,h3⟩;rw[b1j n hw];by_cases hs:StaOk (cfg ((a.take 64).drop 8),(IntKind.wrap .i64 (v8 (a.drop 64)),(IntKind.wrap .i64 (IntKind.wrap .i64 (v8 (a.drop 72))-1),L)))
 ·rw[if_pos hs,obs];dsimp only;rw[decide_eq_true (rfl:(0:Int)=0),Bool.not_true,tff,y1a (n+15) _ _ (by omega),decide_eq_false (fun q=>h ⟨_,hw,hs,q.symm⟩),obs];rfl
 ·rw[if_neg hs,obs];rfl
theorem h1q (n:Nat)  : f1o (n+1)  =
 a0a (i2a n ) fun r0 =>
 a0a (f2g n r0) fun r1 =>
 tif ((!(decide (r1.2=(0:Int))))) (
 some false) (
 a0a (o0x n r1.1 ((((97:UInt8)::[]),[])::[]) ((3:Int),((258:Int),((0:Int),false)))) fun r2 =>
 tif ((!(decide (r2.2=(0:Int))))) (
 some false) (
 tif ((!(decide ((((List.length r2.1.2.2.2):Nat):Int)=(3:Int))))) (
 some false) (
 a0a (g0l n r2.1) fun r3 =>
 a0a (r0g n r2.1) fun r4 =>
 a0a (r0i n r3.1) fun r5 =>
 a0a (at? r2.1.2.2.2 (0:Int)) fun r6 =>
 a0a (r0h n r2.1.1 r6) fun r7 =>
 a0a (r0i n []) fun r8 =>
 a0a (n0i n ((3:Int),((258:Int),((0:Int),true)))) fun r9 =>
 tif ((!(decide (r3.2=(0:Int))))) (
 some false) (
 tif ((!(decide ((((List.length r3.1):Nat):Int)=(25:Int))))) (
 some false) (
 tif ((!(decide (r7.2=(0:Int))))) (
 some false) (
 tif ((!(decide ((((List.length r7.1):Nat):Int)=(8:Int))))) (
 some false) (
 tif ((!(decide ((((List.length r9):Nat):Int)=(32:Int))))) (
 some false) (
 a0a (at? r7.1 (0:Int)) fun r10 =>
 a0a ((r7.1)[0]?) fun r11 =>
 tif ((!(decide ((((List.length r11):Nat):Int)=(512:Int))))) (
 some false) (
 a0a (at? r3.1 (0:Int)) fun r12 =>
 a0a ((r3.1)[0]?) fun r13 =>
 a0a (h0a n r3.1 (r13::(((120:UInt8)::[])::[])) (7:Int)) fun r14 =>
 a0a (at? r3.1 (0:Int)) fun r15 =>
 a0a ((r3.1)[0]?) fun r16 =>
 tif ((r4.1==r16)) (
 tif ((decide (r4.2=(0:Int)))) (
 a0a (l1r n r5.1 r2.1) fun r17 =>
 tif (r17) (
 tif ((decide (r5.2=(0:Int)))) (
 a0a (at? r7.1 (0:Int)) fun r18 =>
 a0a ((r7.1)[0]?) fun r19 =>
 a0a (at? r3.1 (1:Int)) fun r20 =>
 a0a ((r3.1)[1]?) fun r21 =>
 tif ((r19==r21)) (
 tif ((decide (r8.2=(4:Int)))) (
 a0a (at? r9 (7:Int)) fun r22 =>
 tif ((decide ((((UInt8.toNat r22):Nat):Int)=(3:Int)))) (
 a0a (at? r9 (14:Int)) fun r23 =>
 tif ((decide ((((UInt8.toNat r23):Nat):Int)=(1:Int)))) (
 a0a (at? r9 (15:Int)) fun r24 =>
 tif ((decide ((((UInt8.toNat r24):Nat):Int)=(2:Int)))) (
 a0a (at? r9 (24:Int)) fun r25 =>
 tif ((decide ((((UInt8.toNat r25):Nat):Int)=(1:Int)))) (
 a0a (i0o n ((0:Int),((0:Int),(((0:Int),((0:Int),((0:Int),false))),(((0:Int),((0:Int),((0:Int),false))),(((0:Int),(0:Int)),((0:Int),((0:Int),(0:Int))))))))) fun r26 =>
 tif ((decide ((((List.length r26):Nat):Int)=(128:Int)))) (
 a0a (at? r7.1 (0:Int)) fun r27 =>
 a0a ((r7.1)[0]?) fun r28 =>
 tif ((true&&(decide ((7:Int)≤(((List.length r28):Nat):Int))))) (
 tif (((List.drop 0 (List.take 7 r28))==((0:UInt8)::((4:UInt8)::((1:UInt8)::((1:UInt8)::((97:UInt8)::((0:UInt8)::((0:UInt8)::[]))))))))) (
 tif ((decide ((((List.length r14):Nat):Int)=(1:Int)))) (
 a0a (at? r14 (0:Int)) fun r29 =>
 some ((decide (r29.1=(8:Int)))&&(r29.2==((120:UInt8)::[])))) (
 some false)) (
 some false)) (
 none)) (
 some false)) (
 some false)) (
 some false)) (
 some false)) (
 some false)) (
 some false)) (
 some false)) (
 some false)) (
 some false)) (
 some false)) (
 some false)))))))))):=by kernel_rfl
def u0r:Conf:=(20,((10,(20,60)),((4,(5,6)),(3,9))))
def x24:Ser:=([([97],[])],(3,((0,(0,[(3,(258,(0,false)))])),((List.replicate 4 s0,(List.replicate 5 s0,List.replicate 6 s0)),(0,(1,((3,(258,(0,false))),((3,(258,(0,false))),((0,0),(0,(0,0)))))))))))
def S24:Sta:=(u0r,(0,((-1),[x24,ser0,ser0])))
theorem lvl24_0 (n:Nat):i2a (n+39)=some u0r:=by kernel_rfl
theorem lvl24_1 (n:Nat):f2g (n+39) u0r=some ((u0r,(0,((-1),[ser0,ser0,ser0]))),0):=by kernel_rfl
theorem lvl24_2 (n:Nat):o0x (n+39) (u0r,(0,((-1),[ser0,ser0,ser0]))) [([97],[])] (3,(258,(0,false)))=some (S24,0):=by kernel_rfl
theorem lvl24_3 (n:Nat):h0x (n+14) S24=some 0:=by kernel_rfl
theorem lvl24_4 (n:Nat):r0i (n+39) []=some (sta0,4):=n1g (n+22) (by simp) (by rintro ⟨s,_,_,h⟩;cases h)
theorem x24_w:SerW x24∧SerM x24:=by
 have r:∀k,∀s∈List.replicate k s0,SloW s:=fun k s hs=>by rw[(List.mem_replicate.1 hs).2];exact z0s
 have e:EvW (3,(258,(0,false))):=⟨by unfold I64;decide,by decide,by unfold I64;decide⟩;refine ⟨⟨by unfold I64;decide,fun y hy => ?_,⟨r 4,r 5,r 6⟩,⟨by unfold I64;decide,⟨by unfold I64;decide,e,e,?_,by unfold I64;decide,by unfold I64;decide,by unfold I64;decide⟩⟩⟩,⟨by decide,by decide,by decide,by decide,by decide⟩⟩
 ·rw[List.mem_singleton.1 hy];exact e
 ·exact ⟨by decide,by decide⟩
theorem l2c:StaW S24:=⟨by decide,fun x hx=>by
 rcases List.mem_cons.1 hx with rfl | hx
 ·exact x24_w
 rcases List.mem_cons.1 hx with rfl | hx
 ·exact ⟨f2v,f2w⟩
 rw[List.mem_singleton.1 hx];exact ⟨f2v,f2w⟩⟩
theorem k1s:StaOk S24:=by
 have h:=lvl24_3 0;rw[k0n 0 l2c] at h;by_cases k:StaOk S24
 ·exact k
 ·rw[if_neg k] at h;cases h
theorem x24_ne:x24≠ser0:=fun h=>by have:=congrArg Prod.fst h;cases this
theorem e2f:SerOk u0r x24:=(p0f (k1s.right 0 x24 rfl)).resolve_left x24_ne
theorem plc24:plc u0r=8:=by decide
theorem g2o:∃R,c0f u0r x24=d0t x24::R:=⟨_,by unfold c0f;rw[if_neg x24_ne]⟩
theorem all24:∃R,allB S24=f0z S24::d0t x24::R:=by
 obtain ⟨R,h⟩:=g2o;refine ⟨R++[ser0,ser0].flatMap (c0f u0r),?_⟩;show f0z S24::(x24::[ser0,ser0]).flatMap (c0f u0r)=_;rw[List.flatMap_cons,h,List.cons_append]
theorem diff24 (n:Nat) (a b:List UInt8) (R:List (List UInt8)) (hb:b≠[120]):h0a (n+1) (a::b::R) [a,[120]] 7=some [(8,[120])]:=by
 obtain ⟨f,hf⟩:∃f,a0b=f+1+1+1:=⟨a0b-3,by unfold a0b;omega⟩;have e0:IntKind.wrap .i64 ((0:Int)+1)=1:=by decide
 have e1:IntKind.wrap .i64 ((1:Int)+1)=2:=by decide
 have e2:IntKind.wrap .i64 ((7:Int)+1)=8:=by decide
 have a0:at? [a,[120]] (0:Int)=some a:=rfl;have a1:at? [a,[120]] (1:Int)=some [120]:=rfl;have b0:at? (a::b::R) (0:Int)=some a:=rfl;have b1:at? (a::b::R) (1:Int)=some b:=rfl;rw[y0v,hf,f0t,tfd,if_pos (by simp),a0,obs,tfd,if_neg (by simp;omega),b0,obs,beq_self_eq_true,Bool.not_true,tff,e0,
  f0t,tfd,if_pos (by simp),a1,obs,tfd,if_neg (by simp;omega),b1,obs,beq_eq_false_iff_ne.2 hb,Bool.not_false,tft,tfd,if_pos (by simp),e1,e2,
  f0t,tfd,if_neg (by simp),obs,b0a]
 rfl
theorem i1c (n:Nat):f1o (n+40)=some true:=by
 obtain ⟨R,hR⟩:=all24;obtain ⟨Q,hQ⟩:=g2o;obtain ⟨h1,h2,h3⟩:=z0i k1s;have hc:OkC u0r:=k1s.whole.1;have hlen:(allB S24).length=25:=by rw[h2];show 1+3*(plc u0r).toNat=25;rw[plc24];rfl
 have hpl:(c0f u0r x24).length=8:=by rw[(m0w hc.rng (.inr e2f)).2,plc24];rfl
 have hfb:(d0t x24).length=512:=a1y (f1m e2f.lab);have hne:d0t x24≠[120]:=fun h=>by rw[h] at hfb;cases hfb
 have hev:=m0d (3,(258,(0,true)));have e7:at? (f0u (3,(258,(0,true)))) 7=some 3:=by decide +kernel
 have e14:at? (f0u (3,(258,(0,true)))) 14=some 1:=by decide +kernel
 have e15:at? (f0u (3,(258,(0,true)))) 15=some 2:=by decide +kernel
 have e24:at? (f0u (3,(258,(0,true)))) 24=some 1:=by decide +kernel
 have t7:List.drop 0 (List.take 7 (d0t x24))=[0,4,1,1,97,0,0]:=by decide +kernel
 have a0:at? S24.2.2.2 (0:Int)=some x24:=rfl;rw[h1q,lvl24_0,obs,lvl24_1,obs,decide_eq_true rfl,Bool.not_true,tff,lvl24_2,obs,decide_eq_true rfl,Bool.not_true,tff,decide_eq_true (show ((S24.2.2.2.length:Nat):Int)=3 from rfl),Bool.not_true,tff];dsimp only;rw[b1j (n+23) l2c,if_pos k1s,obs,p1y (n+24) l2c,if_pos k1s,obs];dsimp only;rw[i1g (n+22) l2c k1s (by rw[hlen];omega),obs,a0,obs,show S24.1=u0r from rfl,r1d (n+27) hc x24_w.1 x24_w.2,if_pos (.inr e2f),obs,lvl24_4,obs,s1r (n+33),obs];dsimp only
 have p0:at? (c0f u0r x24) (0:Int)=some (d0t x24):=by rw[hQ];rfl
 have p0':(c0f u0r x24)[0]? = some (d0t x24):=by rw[hQ];rfl
 have q0:at? (allB S24) (0:Int)=some (f0z S24):=by rw[hR];rfl
 have q0':(allB S24)[0]? = some (f0z S24):=by rw[hR];rfl
 have q1:at? (allB S24) (1:Int)=some (d0t x24):=by rw[hR];rfl
 have q1':(allB S24)[1]? = some (d0t x24):=by rw[hR];rfl
 have hd:h0a (n+39) (allB S24) [f0z S24,[120]] 7=some [(8,[120])]:=by rw[hR];exact diff24 (n+38) _ _ _ hne
 rw[decide_eq_true rfl,Bool.not_true,tff,hlen,hpl,hev];simp only[p0,p0',q0,q0',q1,q1',obs,hd,hfb,beq_self_eq_true,tft,tff,tfd];rw[stt_same (n+34) l2c,decide_eq_true rfl,obs];simp only[e7,e14,e15,e24,obs,tft,l1y (n+33),t7];have hsl:=e0y (0,(0,((0,(0,(0,false))),((0,(0,(0,false))),((0,0),(0,(0,0)))))));rw[hsl];rfl
theorem small24 (n:Nat) (c:Conf):∃b,f1n (n+1) c=some b∧(b=true→c.2.2.2.1≤8∧c.1≤64∧c.2.2.1.1≤40∧c.2.2.1.2.1≤40∧c.2.2.1.2.2≤40):=by
 rw[r1w];simp only[tfd];by_cases h1:c.2.2.2.1≤8
 case neg=>rw[if_neg h1];exact ⟨_,rfl,by simp⟩
 by_cases h2:c.1≤64
 case neg=>rw[if_pos h1,if_neg h2];exact ⟨_,rfl,by simp⟩
 by_cases h3:c.2.2.1.1≤40
 case neg=>rw[if_pos h1,if_pos h2,if_neg h3];exact ⟨_,rfl,by simp⟩
 by_cases h4:c.2.2.1.2.1≤40
 case neg=>rw[if_pos h1,if_pos h2,if_pos h3,if_neg h4];exact ⟨_,rfl,by simp⟩
 rw[if_pos h1,if_pos h2,if_pos h3,if_pos h4];exact ⟨_,rfl,fun k=>⟨h1,h2,h3,h4,of_decide_eq_true k⟩⟩
theorem x1n {s:Sta} (hs:StaOk s) (hn:s.2.2.2.length≤8):(allB s).length≤1000000:=by
 have hp:=j0b hs.whole.1.rng;rw[(z0i hs).2.1];have:s.2.2.2.length*(plc s.1).toNat≤8*20000:=Nat.mul_le_mul hn (by omega);omega
abbrev Chg:=Int×List UInt8
def f0x (a:List (List UInt8)) (from_:Int):Nat→List (List UInt8)→List Chg
 | _,[]=>[]
 | i,x::r=>if a[i]? = some x then f0x a from_ (i+1) r else (from_+(i:Int),x)::f0x a from_ (i+1) r
theorem z1o (a:List (List UInt8)) (from_:Int):∀(r:List (List UInt8)) (i:Nat),(f0x a from_ i r).length≤r.length
 | [],_=>by simp[f0x]
 | x::r,i=>by
  have:=z1o a from_ r (i+1);unfold f0x;split
  ·rw[List.length_cons];omega
  ·rw[List.length_cons,List.length_cons];omega
theorem diff_l3 (n:Nat) (a b:List (List UInt8)) (from_:Int) (hf0:0≤from_) (hf1:from_≤2000000000000) (hb:b.length≤10000000):∀(rest pre:List (List UInt8)) (f:Nat) (out:List Chg) (i:Int),b=pre++rest→i=pre.length→out.length≤pre.length →
  g0z n (f+rest.length+1) (a,from_,out,b,(b.length:Int),i,())=some (.inl (out++f0x a from_ pre.length rest,())):=by
 intro rest;induction rest with
 | nil =>
  intro pre f out i h hi ho;rw[f0t,tfd,if_neg (idxe h hi rfl)];simp[f0x]
 | cons x rest ih =>
  intro pre f out i h hi ho;have hlen:=congrArg List.length h;simp at hlen;subst hi;have hadd:(out++[(from_+(pre.length:Int),x)]).length≤(pre++[x]).length:=by simp;omega
  have i1:=ih (pre++[x]) f (out++[(from_+(pre.length:Int),x)]) ((pre.length:Int)+1) (idxl h) (idxs rfl) hadd;have i2:=ih (pre++[x]) f out ((pre.length:Int)+1) (idxl h) (idxs rfl) (by simp;omega);rw[show (pre++[x]).length=pre.length+1 by simp] at i1 i2;rw[show f+(x::rest).length+1=(f+rest.length+1)+1 by simp;omega,f0t,tfd,if_pos (idx h rfl rfl),c0g h rfl,obs,tfd,w64 (x:=from_+(pre.length:Int)) (by omega) (by omega),w64 (x:=(pre.length:Int)+1) (by omega) (by omega)];by_cases hk:(a.length:Int)≤(pre.length:Int)
  ·rw[if_pos hk,tfd,if_pos (by omega),i1,f0x,if_neg (by rw[List.getElem?_eq_none (by omega)];simp),List.append_assoc];rfl
  ·have hlt:pre.length<a.length:=by omega
   have hg:a[pre.length]? = some a[pre.length]:=List.getElem?_eq_getElem hlt;rw[if_neg hk,c1x hg,obs,tfn,f0x,hg];by_cases he:a[pre.length]=x
   ·rw[he,beq_self_eq_true,tft,i2,if_pos rfl]
   ·rw[beq_eq_false_iff_ne.2 he,tff,tfd,if_pos (by omega),i1,if_neg (by simpa using he),List.append_assoc];rfl
theorem z1m (n:Nat) (a b:List (List UInt8)) (from_:Int) (hf0:0≤from_) (hf1:from_≤2000000000000) (hb:b.length≤10000000):h0a (n+1) a b from_=some (f0x a from_ 0 b):=by
 rw[y0v];have:=diff_l3 n a b from_ hf0 hf1 hb b [] (a0b-b.length-1) [] 0 rfl rfl (by simp);rw[←lfu (by omega)] at this;rw[this,obs,b0a];rfl
theorem o1f (a:List (List UInt8)) (from_:Int):∀(p q:List (List UInt8)) (i:Nat),f0x a from_ i (p++q)=f0x a from_ i p++f0x a from_ (i+p.length) q
 | [],q,i=>by simp[f0x]
 | x::p,q,i=>by
  have ih:=o1f a from_ p q (i+1);rw[List.cons_append,f0x,f0x,ih,show i+(x::p).length=i+1+p.length by rw[List.length_cons];omega];split<;>simp
theorem t0j (a:List (List UInt8)) (from_:Int):∀(r:List (List UInt8)) (i:Nat),(∀j,j<r.length→a[i+j]? = r[j]?)↔f0x a from_ i r=[]
 | [],i=>by simp[f0x]
 | x::r,i=>by
  have ih:=t0j a from_ r (i+1);rw[f0x];constructor
  ·intro h;have h0:=h 0 (by simp);rw[if_pos (by simpa using h0)];exact ih.1 fun j hj=>by have:=h (j+1) (by simp;omega);rw[show i+(j+1)=i+1+j by omega] at this;simpa using this
  ·intro h j hj;by_cases k:a[i]? = some x
   ·rw[if_pos k] at h;cases j with
    | zero=>simpa using k
    | succ j =>
     have:=ih.2 h j (by simp at hj;omega);rw[show i+(j+1)=i+1+j by omega];simpa using this
   ·rw[if_neg k] at h;cases h
theorem j2q (a:List (List UInt8)) (from_:Int):∀(r:List (List UInt8)) (i:Nat),∀x∈f0x a from_ i r,from_+(i:Int)≤x.1∧x.1<from_+(i:Int)+(r.length:Int)
 | [],i,x,h=>by simp[f0x] at h
 | y::r,i,x,h=>by
  have ih:=j2q a from_ r (i+1);rw[f0x] at h;rw[List.length_cons];split at h
  ·have:=ih x h;omega
  ·rcases List.mem_cons.1 h with rfl | h
   ·dsimp only;omega
   ·have:=ih x h;omega
def Moves (s:Sta) (now:Int):Prop:=StaOk s∧s.2.1<now∧now<35184372088832
noncomputable instance (s now):Decidable (Moves s now):=Classical.propDecidable _
def e2z (s:Sta) (now:Int):Sta:=(s.1,(now,s.2.2))
noncomputable def s0j (s:Sta) (now:Int):Sta×Bool:=if Moves s now then (e2z s now,true) else (s,false)
theorem csc_tick (n:Nat) {s:Sta} (hw:StaW s) (now:Int):o1h (n+15) s now=some (s0j s now):=by
 rw[x1c,k0n n hw];unfold s0j;simp only[tfd,tfn,obs];by_cases h:Moves s now
 ·rw[if_neg (by have:=h.2.1;omega),if_neg (by have:=h.2.2;omega),if_pos h.1,if_pos rfl,if_pos h];rfl
 ·rw[if_neg h];by_cases h1:now≤s.2.1
  ·rw[if_pos h1]
  rw[if_neg h1];by_cases h2:35184372088832≤now
  ·rw[if_pos h2]
  rw[if_neg h2,if_neg (fun k:StaOk s=>h ⟨k,by omega,by omega⟩)];rfl
theorem tickS_w {s:Sta} (hw:StaW s) (now:Int):StaW (e2z s now):=⟨hw.len,hw.ser⟩
theorem tickV_w {s:Sta} (hw:StaW s) (now:Int):StaW (s0j s now).1:=by
 unfold s0j;split
 ·exact tickS_w hw now
 ·exact hw
theorem tick_ok {s:Sta} {now:Int} (h:Moves s now):StaOk (e2z s now):=by
 obtain ⟨h,h1,h2⟩:=h;have t0:=h.clock.1.1;have hr:=h.whole.1.rng.w0;refine ⟨h.whole,⟨⟨by show 0≤now;omega,h2⟩,h.clock.2.1,by have:=h.clock.2.2;show s.2.2.1≤now;omega⟩,fun i x hx => ?_⟩;rcases h.right i x hx with k | ⟨k1,k2,k3,k4⟩
 ·exact .inl k
 ·refine .inr ⟨k1,k2,?_,k4⟩;have:mk s≤mk (e2z s now):=Int.mul_le_mul_of_nonneg_right (Int.ediv_le_ediv (by omega) (by show s.2.1≤now;omega)) (by omega);show x.2.1<mk (e2z s now)+s.1.2.1.1;omega
theorem old_none {now w m:Int} (h:OfP now w) (hm:1≤m∧m≤4096):(oldV now w m).2=0:=by
 unfold oldV;rw[if_pos ⟨h,hm.1,hm.2⟩]
structure Ends3 (c:Conf) (s:Ser):Prop where
 t0:s.2.1 = -1∨b0l s.2.2.2.1.1 (s.2.1 / c.2.1.1)∧CellN s.2.2.2.2.2∧s.2.2.2.2.2.2.1.1 / c.2.1.1=s.2.1 / c.2.1.1
 t1:s.2.1 = -1∨∃m,now1 c s=(m,0)∧b0l s.2.2.2.1.2.1 (s.2.1 / c.2.1.2.1)∧CellN m∧m.2.1.1 / c.2.1.2.1=s.2.1 / c.2.1.2.1
 t2:s.2.1 = -1∨∃m,now2 c s=(m,0)∧b0l s.2.2.2.1.2.2 (s.2.1 / c.2.1.2.2)∧CellN m∧m.2.1.1 / c.2.1.2.2=s.2.1 / c.2.1.2.2
noncomputable def w1u (s:Sta) (i:Nat):Bool:=match s.2.2.2[i]? with | some x=>g1b s.1 x.2.1 s.2.1 | none=>false
noncomputable def dueV (s:Sta):List Nat:=if StaOk s then (f1i s).filter (w1u s) else []
def x0f (s:Sta):Sta:=(s.1,(s.2.1,(s.2.1,s.2.2.2)))
theorem swept_lv {s:Sta} {x:Ser} (h:StaOk s):LvX (x0f s) x↔x≠ser0∧g1b s.1 x.2.1 s.2.1=false:=by
 have:=h.clock.1.1;constructor
 ·rintro ⟨h1,h2 | h2⟩
  ·exfalso;have h2:s.2.1 = -1:=h2;omega
  ·exact ⟨h1,h2⟩
 ·rintro ⟨h1,h2⟩;exact ⟨h1,.inr h2⟩
theorem old_mono {a b w m:Int} (ha:OfP a w) (hb:OfP b w) (hab:a≤b) (hm:1≤m∧m≤4096):(oldV a w m).1≤(oldV b w m).1:=by
 unfold oldV;rw[if_pos (show OfP a w∧1≤m∧m≤4096 from ⟨ha,hm.1,hm.2⟩),if_pos (show OfP b w∧1≤m∧m≤4096 from ⟨hb,hm.1,hm.2⟩)];have:a / w≤b / w:=Int.ediv_le_ediv (by have:=ha.2.2.1;omega) hab;simp only;split<;>split<;>omega
theorem f1t {t a b w m:Int} (ha:OfP a w) (hb:OfP b w) (hab:a≤b) (hm:1≤m∧m≤4096) (h:a1t t a w m=true):a1t t b w m=true:=by
 unfold a1t at *
 have h:=of_decide_eq_true h;have:=old_mono ha hb hab hm;exact decide_eq_true ⟨h.1,old_none hb hm,by omega⟩
theorem j2s {c:Conf} {t a b:Int} (ha:u0v a) (hb:u0v b) (hab:a≤b) (h:g1b c t a=true):g1b c t b=true:=by
 unfold g1b at *
 simp only[Bool.and_eq_true,decide_eq_true_eq] at h ⊢;obtain ⟨hc,h0,h1,h2⟩:=h;have hr:=hc.rng;exact ⟨hc,f1t ⟨ha.1,ha.2,hr.w0.1,hr.w0.2⟩ ⟨hb.1,hb.2,hr.w0.1,hr.w0.2⟩ hab hr.n0 h0,f1t ⟨ha.1,ha.2,hr.w1.1,hr.w1.2⟩ ⟨hb.1,hb.2,hr.w1.1,hr.w1.2⟩ hab hr.n1 h1,f1t ⟨ha.1,ha.2,hr.w2.1,hr.w2.2⟩ ⟨hb.1,hb.2,hr.w2.1,hr.w2.2⟩ hab hr.n2 h2⟩
theorem x1y {s:Sta} (h:StaOk s) {x:Ser} (hl:LvX (x0f s) x):LvX s x:=by
 obtain ⟨h1,h2⟩:=(swept_lv h).1 hl;refine ⟨h1,?_⟩;rcases h.clock.2.1 with k | k
 ·exact .inl k
 ·refine .inr ?_;cases hd:g1b s.1 x.2.1 s.2.2.1 with
  | false=>rfl
  | true=>rw[j2s k h.clock.1 h.clock.2.2 hd] at h2;cases h2
theorem swept_ok {s:Sta} (h:StaOk s):StaOk (x0f s):=by
 refine ⟨h.whole,⟨h.clock.1,.inr h.clock.1,Int.le_refl _⟩,fun i x hx => ?_⟩;rcases h.right i x hx with k | ⟨k1,k2,k3,k4⟩
 ·exact .inl k
 ·refine .inr ⟨k1,k2,k3,?_⟩;rintro ⟨q1,j,q2,y,q3,q4,q5⟩;exact k4 ⟨x1y h q1,j,q2,y,q3,x1y h q4,q5⟩
theorem lvAt_iff {s:Sta} {i:Nat}:lvAt s i=true↔∃x,s.2.2.2[i]? = some x∧LvX s x:=by
 unfold lvAt;cases s.2.2.2[i]? with
 | none=>simp
 | some x=>simp
theorem s1o {u x:Sta} {l:List Lab} {e:Ev} (h:h0v u l e=(x,0)):∃i y,r0k x l=some i∧x.2.2.2[i]? = some y∧y.2.1=e.1:=by
 obtain ⟨hg,i,z,b,y,hp,hput,rfl,_⟩:=c1y h;obtain ⟨p1,p2,p3,p4⟩:=y0d hg hp;obtain ⟨q1,q2,q3,q4,q5⟩:=x0w p1 hput;have hy:(setS u i y).2.2.2[i]? = some y:=by rw[q0p,if_pos rfl,if_pos p3]
 have hne:y≠ser0:=fun k=>by
  have e1:y.1=[]:=congrArg Prod.fst k;have:=q1.lab.n0;rw[e1] at this;simp at this
 have hl:LvX (setS u i y) y:=r1t (s:=u) hg.st hne (by rw[q4];exact hg.lo) (by rw[q4];exact hg.ev.t1);refine ⟨i,y,i0q.2 ⟨y,hy,q5.trans p2,hl,fun j hj w hw hn => ?_⟩,hy,q4⟩;rw[q0p,if_neg (by omega)] at hw;cases hp with
 | found hf hx hl hlv ht =>
  obtain ⟨_,_,_,_,first⟩:=i0q.1 hf;exact first j hj w hw hn
 | room hf hs hr=>exact p0r.1 hf w (List.mem_of_getElem? hw) hn
theorem a2b {u x:Sta} {l:List Lab} {e:Ev} (h:h0v u l e=(x,0)):∃i y old,r0k x l=some i∧u.2.2.2[i]? = some old∧x.2.2.2[i]? = some y∧x=setS u i y∧y≠old:=by
 obtain ⟨hg,i,z,b,y,hp,hput,hx,_⟩:=c1y h;subst hx;obtain ⟨p1,p2,p3,p4⟩:=y0d hg hp;obtain ⟨q1,q2,q3,q4,q5⟩:=x0w p1 hput;have hy:(setS u i y).2.2.2[i]? = some y:=by rw[q0p,if_pos rfl,if_pos p3]
 obtain ⟨i',y',f1,f2,f3⟩:=s1o h;have hne:y≠ser0:=fun k=>by
  have e1:y.1=[]:=congrArg Prod.fst k;have:=q1.lab.n0;rw[e1] at this;simp at this
 have hl:LvX (setS u i y) y:=r1t (s:=u) hg.st hne (by rw[q4];exact hg.lo) (by rw[q4];exact hg.ev.t1);have hfi:r0k (setS u i y) l=some i:=i0q.2 ⟨y,hy,q5.trans p2,hl,fun j hj w hw hn=>by
  rw[q0p,if_neg (by omega)] at hw;cases hp with
  | found hf hx hl hlv ht =>
   obtain ⟨_,_,_,_,first⟩:=i0q.1 hf;exact first j hj w hw hn
  | room hf hs hr=>exact p0r.1 hf w (List.mem_of_getElem? hw) hn⟩
 cases hp with
 | found hf hx hl' hlv ht=>exact ⟨i,y,z,hfi,hx,hy,rfl,fun k=>by rw[k] at q4;omega⟩
 | room hf hs hr =>
  obtain ⟨old,o1,o2,_⟩:=a1c.1 hr;exact ⟨i,y,old,hfi,o1,hy,rfl,fun k=>o2 (by rw[←k];exact hl)⟩
theorem k1q {s:Sta} {i:Nat} {z:Ser} (h:s.2.2.2[i]? = some z):allB s=(f0z s::(s.2.2.2.take i).flatMap (c0f s.1))++(c0f s.1 z++(s.2.2.2.drop (i+1)).flatMap (c0f s.1)):=by
 obtain ⟨hi,hz⟩:=List.getElem?_eq_some_iff.1 h;have e:s.2.2.2=s.2.2.2.take i++z::s.2.2.2.drop (i+1):=by
  rw[←hz,←List.drop_eq_getElem_cons hi,List.take_append_drop]
 unfold allB
 conv=>lhs;rw[e]
 rw[List.flatMap_append,List.flatMap_cons,List.cons_append]
theorem b2z {c:Conf} {x y:Ser} (hc:OkC c) (wx:SerW x) (wy:SerW y) (hx:x=ser0∨SerOk c x) (hy:y=ser0∨SerOk c y) (h:c0f c x=c0f c y):x=y:=by
 obtain ⟨q,hq⟩:=s0p 0 hc wx hx;obtain ⟨r,hr⟩:=s0p 0 hc wy hy;rw[h] at hq;have e:some (y,r)=some (x,q):=hr.symm.trans hq;exact (congrArg Prod.fst (Option.some.inj e)).symm
theorem few_diff {s u:Sta} (hw:StaW s) (hu:StaW u) (hs:StaOk s) (hus:StaOk u) {i:Nat} {y old:Ser} (ho:s.2.2.2[i]? = some old) (hy:u.2.2.2[i]? = some y) (hset:u=setS s i y) (hne:y≠old) :
  1≤(f0x (allB s) 0 0 (allB u)).length∧(f0x (allB s) 0 0 (allB u)).length≤(plc s.1).toNat ∧
  ∀x∈f0x (allB s) 0 0 (allB u),1+((i*(plc s.1).toNat:Nat):Int)≤x.1∧x.1<1+((i*(plc s.1).toNat:Nat):Int)+((plc s.1).toNat:Int):=by
 obtain ⟨hi,_⟩:=List.getElem?_eq_some_iff.1 ho;have hcu:u.1=s.1:=by rw[hset];rfl
 have hsup:f0z u=f0z s:=by rw[hset];rfl
 have hpl:u.2.2.2=s.2.2.2.set i y:=by rw[hset];rfl
 have ha:=k1q ho;have hb:=k1q hy;have hro:old=ser0∨SerOk s.1 old:=p0f (hs.right i old ho);have hry:y=ser0∨SerOk s.1 y:=by rw[←hcu];exact p0f (hus.right i y hy)
 have lo:=(m0w hs.whole.1.rng hro).2;have ly:=(m0w hs.whole.1.rng hry).2;have ht:u.2.2.2.take i=s.2.2.2.take i:=by rw[hpl,List.take_set,List.set_eq_of_length_le (by rw[List.length_take];omega)]
 have hd:u.2.2.2.drop (i+1)=s.2.2.2.drop (i+1):=by rw[hpl,List.drop_set,if_pos (by omega)]
 rw[hcu,hsup,ht,hd] at hb;have hpre:(f0z s::(s.2.2.2.take i).flatMap (c0f s.1)).length=1+i*(plc s.1).toNat:=by
  rw[List.length_cons,a1x (m:=(plc s.1).toNat) _ (fun x hx=>(z0i hs).2.2 x (List.mem_of_mem_take hx)),List.length_take,Nat.min_eq_left (by omega)];omega
 have d1:f0x (allB s) 0 0 (f0z s::(s.2.2.2.take i).flatMap (c0f s.1))=[]:=(t0j _ 0 _ 0).1 fun j hj=>by
  rw[ha,Nat.zero_add,List.getElem?_append_left hj]
 have d3:f0x (allB s) 0 (0+(f0z s::(s.2.2.2.take i).flatMap (c0f s.1)).length+(c0f s.1 y).length) ((s.2.2.2.drop (i+1)).flatMap (c0f s.1))=[]:=(t0j _ 0 _ _).1 fun j hj=>by
  rw[ha,ly,←lo,List.getElem?_append_right (by omega),List.getElem?_append_right (by omega)];congr 1;omega
 have hD:f0x (allB s) 0 0 (allB u)=f0x (allB s) 0 (1+i*(plc s.1).toNat) (c0f s.1 y):=by
  rw[hb,o1f,o1f,d1,d3,List.nil_append,List.append_nil,Nat.zero_add,hpre]
 rw[hD];refine ⟨?_,by rw[←ly];exact z1o _ _ _ _,fun x hx => ?_⟩
 ·rcases Nat.eq_zero_or_pos (f0x (allB s) 0 (1+i*(plc s.1).toNat) (c0f s.1 y)).length with k | k
  ·exfalso;have k:=List.eq_nil_of_length_eq_zero k;have hall:=(t0j _ 0 _ _).2 k;apply hne;refine b2z hs.whole.1 (hu.ser y (List.mem_of_getElem? hy)).1 (hw.ser old (List.mem_of_getElem? ho)).1 hry hro ?_;apply List.ext_getElem?;intro j;rcases Nat.lt_or_ge j (c0f s.1 y).length with q | q
   ·have:=hall j q;rw[ha,←hpre,List.getElem?_append_right (by omega),Nat.add_sub_cancel_left,List.getElem?_append_left (by omega)] at this;exact this.symm
   ·rw[List.getElem?_eq_none q,List.getElem?_eq_none (by omega)]
  ·exact k
 ·have:=j2q _ _ _ _ x hx;rw[ly] at this;omega
theorem chk_ok {α:Type} {s:Sta} (h:StaOk s) (x y:α):tif (decide ((if StaOk s then (0:Int) else 2)=0)) x y=x:=by rw[if_pos h];rfl
theorem chk_no {α:Type} {s:Sta} (h:¬StaOk s) (x y:α):tif (decide ((if StaOk s then (0:Int) else 2)=0)) x y=y:=by rw[if_neg h];rfl
theorem at_nn {α:Type} {l:List α} {i:Int} {x:α} (h0:0≤i) (h:l[i.toNat]? = some x):at? l i=some x:=by unfold at?;rw[decide_eq_true h0];exact h
section
variable {del:Int×Unit→Option Bool} {p:Int→Bool} {L:List Int} (hd:∀x∈L,del (x,())=some (p x))
include hd
theorem index_il (n:Nat) (l:List Int) (hL:l.length≤1000000):∀(rest pre:List Int) (f:Nat) (i len:Int),(∀x∈rest,x∈L)→l=pre++rest→i=pre.length→len=l.length→rest.length<f →
  (d0v n f (l,del,len,i,())=some (.inl ())∧∀x∈rest,p x=false) ∨
  (∃A x B,rest=A++x::B∧(∀y∈A,p y=false)∧p x=true∧d0v n f (l,del,len,i,())=some (.inr (i+A.length))):=by
 intro rest;induction rest with
 | nil =>
  intro pre f i len hm hl hi hn hf;obtain ⟨f,rfl⟩:∃g,f=g+1:=⟨f-1,by simp at hf;omega⟩;rw[j0l];exact .inl ⟨by simp only[tfd,if_neg (idxe hl hi hn)],by simp⟩
 | cons x rest ih =>
  intro pre f i len hm hl hi hn hf;obtain ⟨f,rfl⟩:∃g,f=g+1:=⟨f-1,by simp at hf;omega⟩;rw[j0l];simp only[tfd,if_pos (idx hl hi hn),c0g hl hi,obs,hd x (hm x (by simp)),idxw hl hi (show l.length≤1000000000000 by omega)];cases hp:p x with
  | true=>exact .inr ⟨[],x,rest,rfl,by simp,hp,by simp⟩
  | false =>
   rw[tff];rcases ih (pre++[x]) f (i+1) len (fun y hy=>hm y (by simp[hy])) (idxl hl) (idxs hi) hn (by simp at hf;omega) with ⟨h1,h2⟩ | ⟨A,y,B,h1,h2,h3,h4⟩
   ·exact .inl ⟨h1,by intro z hz;rcases List.mem_cons.1 hz with rfl | hz;exact hp;exact h2 z hz⟩
   ·refine .inr ⟨x::A,y,B,by rw[h1];rfl,?_,h3,by rw[h4,List.length_cons,show i+1+(A.length:Int)=i+((A.length+1:Nat):Int) by omega]⟩;intro z hz;rcases List.mem_cons.1 hz with rfl | hz
    ·exact hp
    ·exact h2 z hz
theorem j2r (n:Nat) (l0:List Int) (hL:l0.length≤1000000):∀(rest F G:List Int) (f:Nat) (i j:Int),(∀x∈rest,x∈L)→(F++(G++rest)).length=l0.length→G≠[]→i=F.length→j=F.length+G.length→rest.length<f →
  ∃G',d0p n f (F++(G++rest),del,i,j,())=some (.inl (F++rest.filter (fun x => !p x)++G',(F++rest.filter (fun x => !p x)).length,()))∧(F++rest.filter (fun x => !p x)++G').length=l0.length:=by
 intro rest;induction rest with
 | nil =>
  intro F G f i j hm hl hg hi hj hf;obtain ⟨f,rfl⟩:∃g,f=g+1:=⟨f-1,by simp at hf;omega⟩;rw[i0z];have:¬(j<((F++(G++[])).length:Int)):=by simp;omega
  simp only[tfd,if_neg this];exact ⟨G,by simp[hi],by simpa using hl⟩
 | cons x rest ih =>
  intro F G f i j hm hl hg hi hj hf;have hm':∀y∈rest,y∈L:=fun y hy=>hm y (by simp[hy])
  obtain ⟨f,rfl⟩:∃g,f=g+1:=⟨f-1,by simp at hf;omega⟩;rw[i0z];simp only[List.length_append,List.length_cons] at hl;have hlt:j<((F++(G++x::rest)).length:Int):=by simp;omega
  have hat:at? (F++(G++x::rest)) j=some x:=c0g (pre:=F++G) (rest:=rest) (by simp) (by simp;omega);have hget:(F++(G++x::rest))[j.toNat]? = some x:=by
   rw[show j.toNat=F.length+G.length by omega,List.getElem?_append_right (by omega),List.getElem?_append_right (by omega)];simp
  simp only[tfd,if_pos hlt,hat,hget,obs,hd x (hm x (by simp))];have wj:IntKind.wrap .i64 (j+1)=j+1:=by rw[w64 (by omega) (by omega)]
  have wi:IntKind.wrap .i64 (i+1)=i+1:=by rw[w64 (by omega) (by omega)]
  rw[wj,wi]
  match G,hg with
  | g::G,_ =>
  cases hp:p x with
  | false =>
   have hat':at? (F++(g::G++x::rest)) i=some g:=c0g (pre:=F) (rest:=G++x::rest) (by simp) hi;have hget':(F++(g::G++x::rest))[i.toNat]? = some g:=by
    rw[show i.toNat=F.length by omega];simp
   have hset:(F++(g::G++x::rest)).set i.toNat x=(F++[x])++((G++[x])++rest):=by
    rw[show i.toNat=F.length by omega,List.set_append_right _ _ (by omega)];simp
   simp only[Bool.not_false,tft,hat',hget',obs,hset];obtain ⟨G',h1,h2⟩:=ih (F++[x]) (G++[x]) f (i+1) (j+1) hm' (by simp at hl ⊢;omega) (by simp) (by simp;omega) (by simp at hj ⊢;omega) (by simp at hf;omega);refine ⟨G',?_,?_⟩
   ·rw[h1];simp[List.filter_cons,hp]
   ·rw[←h2];simp[List.filter_cons,hp]
  | true =>
   simp only[Bool.not_true,tff];obtain ⟨G',h1,h2⟩:=ih F (g::G++[x]) f i (j+1) hm' (by simp at hl ⊢;omega) (by simp) hi (by simp at hj ⊢;omega) (by simp at hf;omega);simp only[List.append_assoc,List.singleton_append] at h1;refine ⟨G',?_,?_⟩
   ·rw[h1];simp[List.filter_cons,hp]
   ·rw[←h2];simp[List.filter_cons,hp]
theorem d2o (n:Nat) (l:List Int) (hL:l.length≤1000000) (hm:∀x∈l,x∈L):j0s (n+2) l del=some (l.filter fun x => !p x):=by
 rw[u0p,v0v];rcases index_il hd n l hL l [] a0b 0 l.length hm rfl rfl rfl (by unfold a0b;omega) with ⟨h1,h2⟩ | ⟨A,x,B,h1,h2,h3,h4⟩
 ·rw[h1];simp only[obs,b0a,tfd,if_pos trivial];exact congrArg some (List.filter_eq_self.2 fun y hy=>by simp[h2 y hy]).symm
 ·rw[h4];have hl:l.length=A.length+(B.length+1):=by rw[h1];simp
  simp only[obs,m0t,tfd,Int.zero_add];rw[if_neg (by omega),w64 (x:=(A.length:Int)+1) (by omega) (by omega)];obtain ⟨G',g1,g2⟩:=j2r hd (n+1) l hL B A [x] a0b (A.length:Int) (A.length+1) (fun y hy=>hm y (by rw[h1];simp[hy])) (by rw[h1];simp) (by simp) rfl (by simp) (by unfold a0b;omega);rw[show A++([x]++B)=l by rw[h1];simp] at g1;rw[g1];have hF:A++B.filter (fun x => !p x)=l.filter fun x => !p x:=by
   rw[h1,List.filter_append,List.filter_cons];have:A.filter (fun x => !p x)=A:=List.filter_eq_self.2 fun y hy=>by simp[h2 y hy]
   simp[h3,this]
  rw[hF] at g2 ⊢;generalize (l.filter fun x => !p x)=F at *
  simp only[obs,b0a,v0s,tfd,Int.toNat_natCast];have hle:F.length≤(F++G').length:=by simp
  have k1:putRow (F++G') F.length (List.replicate ((F++G').length-F.length) (0:Int))=F++List.replicate ((F++G').length-F.length) (0:Int):=by
   unfold putRow;rw[List.drop_of_length_le (by simp)];simp
  rw[k1,if_pos (by omega),if_pos hle,if_pos (by omega),if_pos (by omega),if_pos (by simp;omega)];simp
end
theorem live_at {s:Sta} {z:Int} (h:z∈(f1i s).map Int.ofNat):0≤z∧∃y,s.2.2.2[z.toNat]? = some y∧LvX s y:=by
 obtain ⟨i,hi,rfl⟩:=List.mem_map.1 h;have h1:=(List.mem_filter.1 hi).2;obtain ⟨x,hx,hl⟩:=lvAt_iff.1 h1;exact ⟨Int.natCast_nonneg i,x,hx,hl⟩
theorem u1k (n:Nat) {s:Sta} {z:Int} {x:Ser} (h0:0≤z) (hx:s.2.2.2[z.toNat]? = some x):m0k (n+7) z s=some (!w1u s z.toNat):=by
 rw[g1z,at_nn h0 hx,obs,e1o n,obs];unfold w1u;rw[hx]
theorem due_list (s:Sta):((f1i s).map Int.ofNat).filter (fun z=>w1u s z.toNat)=((f1i s).filter (w1u s)).map Int.ofNat:=by
 rw[List.filter_map];rfl
theorem f2e (n:Nat) {s:Sta} (hw:StaW s):e1b (n+15) s=some ((dueV s).map Int.ofNat):=by
 rw[p1w,k0n n hw,obs,tfn];unfold dueV;by_cases h:StaOk s
 case neg=>rw[chk_no h,if_neg h];rfl
 have hd:∀z∈(f1i s).map Int.ofNat,(fun y2:Int×Unit=>m0k (n+14) y2.1 s) (z,())=some (!w1u s z.toNat):=fun z hz=>by
  obtain ⟨h0,y,hy,_⟩:=live_at hz;exact u1k (n+7) h0 hy
 have hL:((f1i s).map Int.ofNat).length≤1000000:=by have:=live_len s;have:=h.whole.len;simp;omega
 have e:liveR s=(f1i s).map Int.ofNat:=if_pos h.whole;rw[chk_ok h,stt_live (n+6) hw,obs,e,d2o (del:=fun y2:Int×Unit=>m0k (n+14) y2.1 s) (p:=fun z => !w1u s z.toNat) hd (n+12) _ hL (fun _ hx=>hx),obs,if_pos h,←due_list];simp only[Bool.not_not]
noncomputable def doV (s:Sta):Sta×(Int×Int):=if StaOk s then (x0f s,(((dueV s).length:Int),0)) else (sta0,(0,2))
theorem sweep_do (n:Nat) {s:Sta} (hw:StaW s):l1q (n+16) s=some (doV s):=by
 rw[u1l,k0n (n+1) hw,obs,tfn];unfold doV;by_cases h:StaOk s
 case neg=>rw[chk_no h,if_neg h,if_neg h];rfl
 rw[chk_ok h,if_pos h,f2e n hw,obs,List.length_map];rfl
theorem few_l24 (n:Nat) (s:Sta) (d:List Chg) (a b lo hi:Int) (h1:IntKind.wrap .i64 ((1:Int)+(IntKind.wrap .i64 (a*b)))=lo) (h2:IntKind.wrap .i64 ((1:Int)+(IntKind.wrap .i64 ((IntKind.wrap .i64 (a+(1:Int)))*b)))=hi)
  (hd:∀x∈d,lo≤x.1∧x.1<hi) (hl:d.length≤10000000):∀(rest pre:List Chg) (f:Nat) (i:Int),d=pre++rest→i=pre.length →
  e0e n (f+rest.length+1) (s,d,a,b,d,(d.length:Int),i,())=some (.inl (s,(d,(b,())))):=by
 intro rest;induction rest with
 | nil =>
  intro pre f i h hi;rw[m0z,tfd,if_neg (idxe h hi rfl)]
 | cons x rest ih =>
  intro pre f i h hi;have hlen:=congrArg List.length h;simp at hlen;obtain ⟨k1,k2⟩:=hd x (by rw[h];simp);rw[show f+(x::rest).length+1=(f+rest.length+1)+1 by simp;omega,m0z,tfd,if_pos (idx h hi rfl),c0g h hi,obs,h1,h2,tfd,if_neg (by omega),tfd,if_neg (by omega),w64 (by omega) (by omega)];exact ih (pre++[x]) f (i+1) (idxl h) (idxs hi)
theorem p1r (s:Sta) (now:Int):(s0j s now).1.1=s.1∧(s0j s now).1.2.2.2=s.2.2.2:=by
 unfold s0j;split<;>exact ⟨rfl,rfl⟩
theorem a2o {s:Sta} (h:StaOk s) (now:Int):StaOk (s0j s now).1:=by
 unfold s0j;split
 ·rename_i hm;exact tick_ok hm
 ·exact h
theorem e2x {s u:Sta} (hc:u.1=s.1) (hp:u.2.2.2=s.2.2.2):f0x (allB s) 0 0 (allB u)=[]∨∃y,f0x (allB s) 0 0 (allB u)=[(0,y)]:=by
 have hT:(f0x (allB s) 0 1 (s.2.2.2.flatMap (c0f s.1)))=[]:=(t0j _ 0 _ 1).1 fun j hj=>by
  show (f0z s::s.2.2.2.flatMap (c0f s.1))[1+j]? = _;rw[Nat.add_comm,List.getElem?_cons_succ]
 have:allB u=f0z u::s.2.2.2.flatMap (c0f s.1):=by unfold allB;rw[hc,hp]
 rw[this,f0x,hT];split
 ·exact .inl rfl
 ·exact .inr ⟨_,rfl⟩
theorem n1i (n:Nat) (s:Sta) (l:List Lab) (e:Ev) (now:Int) (hs:Wf a0t s) (hl:Wf (.slice b0i) l) (he:Wf a0h e):b1x (n+41) s l e now=some true:=by
 have hw:=sta_wf hs;have hL:l.length≤9223372036854775807:=by
  have:=hl;exact this.1
 rw[f1p,i1c n,obs,Bool.not_true,tff];rcases h2v (n+37) hw with h | ⟨h,h8⟩
 ·rw[h];rfl
 rw[h,obs,show (decide ((1:Int)=0))=false from rfl,tff];rcases s1a (n+39) l hL with h2 | h2
 ·rw[h2];rfl
 rw[h2,obs,show (decide ((1:Int)=0))=false from rfl,tff];obtain ⟨b,hb,_⟩:=small24 (n+39) s.1;rw[hb,obs];cases b with
 | false=>rfl
 | true =>
  rw[Bool.not_true,tff,k0n (n+26) hw,obs];by_cases hok:StaOk s
  case neg=>rw[if_neg hok];rfl
  have htk:=a2o hok now;have htw:=tickV_w hw now;obtain ⟨tc,tp⟩:=p1r s now;have huk:=swept_ok htk;have huw:StaW (x0f (s0j s now).1):=⟨htw.len,htw.ser⟩;have hdo:doV (s0j s now).1=(x0f (s0j s now).1,(((dueV (s0j s now).1).length:Int),0)):=by unfold doV;rw[if_pos htk]
  have hsl:(allB s).length≤1000000:=x1n hok h8;have hul:(allB (x0f (s0j s now).1)).length≤1000000:=x1n huk (by show (s0j s now).1.2.2.2.length≤8;rw[tp];exact h8);rw[if_pos hok,show (decide ((0:Int)=0))=true from rfl,Bool.not_true,tff,b1j (n+24) hw,if_pos hok,obs,csc_tick (n+25) hw,obs,sweep_do (n+24) htw,hdo,obs];dsimp only;rw[b1j (n+24) huw,if_pos huk,obs];dsimp only;rw[show (decide ((0:Int)=0))=true from rfl,Bool.not_true,tff,tff,tff,z1m (n+39) _ _ 0 (by omega) (by omega) (by omega),obs,e2k (n+16) hw l (ev_wf he),obs]
  have rest:∀r:Option Bool,(r=tif (!(decide ((h0v s l e).2=(0:Int)))) (some true) (a0a (t0w (n+40) (h0v s l e).1 l) fun r20=>a0a (g0l (n+40) (h0v s l e).1) fun r21 =>
    tif (!(decide (r20.2=(0:Int)))) (some false) (tif (!(decide (r21.2=(0:Int)))) (some false) (a0a (i0r (n+40) s.1) fun r22=>a0a (h0a (n+40) (allB s) r21.1 (0:Int)) fun r23 =>
     a0a (e0e (n+40) a0b (s,(r23,(r20.1,(r22,(r23,((((List.length r23):Nat):Int),((0:Int),())))))))) fun r24 =>
     b0z (fun y25=>tif (decide ((1:Int)≤(((List.length y25.2.1):Nat):Int))) (tif (decide ((((List.length y25.2.1):Nat):Int)≤y25.2.2.1)) (some (decide (y25.2.2.1<y25.1.1.2.2.2.2))) (some false)) (some false)) (fun z26=>some z26) r24))))→r=some true:=by
   rintro _ rfl;by_cases hz:(h0v s l e).2=0
   case neg=>rw[decide_eq_false hz];rfl
   have hv:h0v s l e=((h0v s l e).1,0):=Prod.ext rfl hz;obtain ⟨i,y,old,f1,f2,f3,f4,f5⟩:=a2b hv;have hvk:=u1v hv;have hvw:=writeV_w hw l e;generalize (h0v s l e).1=u at *
   have hcu:u.1=s.1:=by rw[f4];rfl
   have hp8:u.2.2.2.length≤8:=by rw[f4];simpa [setS] using h8
   have hvl:=x1n hvk hp8;have hp:=j0b hok.whole.1.rng;have hi:i<8:=by have:=(List.getElem?_eq_some_iff.1 f2).1;omega
   obtain ⟨g1,g2,g3⟩:=few_diff hw hvw hok hvk f2 f3 f4 f5;have hfr:s1p u l=((i:Int),0):=by unfold s1p;rw[if_pos hvk.whole,f1]
   have hP:plc s.1=(((plc s.1).toNat:Nat):Int):=by omega
   have b1:i*(plc s.1).toNat≤8*20000:=Nat.mul_le_mul (by omega) (by omega);rw[decide_eq_true hz,Bool.not_true,tff,x1z (n+30) hvw,hfr,obs,b1j (n+24) hvw,if_pos hvk,obs];dsimp only;rw[show (decide ((0:Int)=0))=true from rfl,Bool.not_true,tff,tff,(p1a (n+36) hok.whole.1).1,obs,z1m (n+39) _ _ 0 (by omega) (by omega) (by omega),obs];have e1:IntKind.wrap .i64 ((1:Int)+(IntKind.wrap .i64 ((i:Int)*plc s.1)))=1+((i*(plc s.1).toNat:Nat):Int):=by
    rw[show (i:Int)*plc s.1=((i*(plc s.1).toNat:Nat):Int) by rw[Int.natCast_mul,←hP],w64 (x:=((i*(plc s.1).toNat:Nat):Int)) (by omega) (by omega),w64 (by omega) (by omega)]
   have e2:IntKind.wrap .i64 ((1:Int)+(IntKind.wrap .i64 ((IntKind.wrap .i64 ((i:Int)+(1:Int)))*plc s.1)))=1+((i*(plc s.1).toNat:Nat):Int)+((plc s.1).toNat:Int):=by
    rw[w64 (x:=(i:Int)+1) (by omega) (by omega),show ((i:Int)+1)*plc s.1=((i*(plc s.1).toNat:Nat):Int)+((plc s.1).toNat:Int) by rw[Int.natCast_mul,←hP,Int.add_mul,Int.one_mul],w64 (x:=((i*(plc s.1).toNat:Nat):Int)+((plc s.1).toNat:Int)) (by omega) (by omega),w64 (by omega) (by omega)];omega
   have hloop:=few_l24 (n+40) s (f0x (allB s) 0 0 (allB u)) (i:Int) (plc s.1) _ _ e1 e2 g3 (by omega) (f0x (allB s) 0 0 (allB u)) [] (a0b-(f0x (allB s) 0 0 (allB u)).length-1) 0 rfl rfl;rw[←lfu (by omega)] at hloop;rw[hloop,obs,b0a];dsimp only;rw[tfd,if_pos (by omega),tfd,if_pos (by omega),decide_eq_true hok.whole.1.pl]
  have hcs:(x0f (s0j s now).1).1=s.1:=tc;have hps:(x0f (s0j s now).1).2.2.2=s.2.2.2:=tp;rcases e2x hcs hps with k | ⟨z,k⟩
  ·rw[k,tfd,if_neg (by simp),tfd,if_neg (by simp)];exact rest _ rfl
  ·rw[k,tfd,if_neg (by simp),tfd,if_pos (by simp),show at? [((0:Int),z)] (0:Int)=some (0,z) from rfl,obs,show (decide ((0:Int)=0))=true from rfl,Bool.not_true,tff];exact rest _ rfl
end Go.Proofs.YtagnkfbpgkckiaaGreat
