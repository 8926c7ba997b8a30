/-
 Plain proofs about the functions of this seat, part 3 of 3.
-/
import Derived.Test.YtjffajodppnejaaGreatDoorQ2
import Derived.Test.YtjffajodppnejaaGreatDoorTr
namespace Go.Proofs.YtjffajodppnejaaGreatDoor
open Go.Flat Go.Plim
set_option linter.unusedVariables false
set_option linter.unusedSimpArgs false
theorem rps_loop (n:Nat) (r:(List UInt8)) (m:Nat) (hm:m≤16777216):∀(f k:Nat),1≤k→k≤m→m-k≤f →
  e0r n (f+1) (List.replicate k r++List.replicate (m-k) [],(k:Int),())=some (.inl (List.replicate m r,())):=by
 intro f;induction f with
 | zero =>
  intro k h1 h2 h3;obtain rfl:k=m:=by omega
  rw[h0y];simp[tfd]
 | succ f ih =>
  intro k h1 h2 h3;rw[h0y];have hlen:(List.replicate k r++List.replicate (m-k) ([]:(List UInt8))).length=m:=by simp;omega
  rw[hlen];by_cases hk:k=m
  ·subst hk;simp[tfd]
  ·have c1:((k:Int)<(m:Int)):=by omega
   have c2:((0:Int)≤(k:Int)):=by omega
   have c3:(Int.toNat (k:Int)≤m):=by simp;omega
   have c4:(decide ((0:Int)≤(k:Int))&&decide ((k:Int)≤(m:Int)))=true:=by simp;omega
   have c5:(Int.toNat (k:Int)+(m-Int.toNat (k:Int))≤m):=by simp;omega
   rw[c4];simp only[g0r,decide_eq_true_eq,if_pos c1,if_pos c2,if_pos c3,if_pos c5,if_true];have e1:List.take (Int.toNat (k:Int)-0) (List.drop 0 (List.replicate k r++List.replicate (m-k) ([]:(List UInt8))))=List.replicate k r:=by simp
   rw[e1];have e2:List.take (m-Int.toNat (k:Int)) (List.replicate k r)=List.replicate (min (m-k) k) r:=by simp
   rw[e2];have e3:(k:Int)+((List.replicate (min (m-k) k) r).length:Int)=((k+min (m-k) k:Nat):Int):=by simp
   rw[e3,w64 (by omega) (by omega)];have e4:Go.Flat.putRow (List.replicate k r++List.replicate (m-k) ([]:(List UInt8))) (Int.toNat (k:Int)) (List.replicate (min (m-k) k) r)=List.replicate (k+min (m-k) k) r++List.replicate (m-(k+min (m-k) k)) []:=by
    unfold Go.Flat.putRow;rw[show Int.toNat (k:Int)=k by simp,List.take_left' (by simp),List.drop_append,List.drop_of_length_le (by simp),List.replicate_append_replicate];simp;omega
   rw[e4];exact ih (k+min (m-k) k) (by omega) (by omega) (by omega)
theorem s1e (n:Nat) (r:(List UInt8)) (m:Nat) (h1:1≤m) (h2:m≤16777216):j0o (n+3) [r] (m:Int)=some (List.replicate m r):=by
 rw[t0u];have c1:¬((m:Int)<0):=by omega
 have e1:(((List.length [r]:Nat)):Int)=1:=rfl;rw[e1,wu64 (x:=1) (by omega) (by omega),wu64 (x:=(m:Int)) (by omega) (by omega),q0c,mul64 n 1 (m:Int) (by omega) (by omega)];have e2:(1:Int)*(m:Int) / 18446744073709551616=0:=by omega
 have e3:(1:Int)*(m:Int) % 18446744073709551616=(m:Int):=by omega
 rw[e2,e3,obs,obs];have c2:¬((9223372036854775807:Int)<(m:Int)):=by omega
 have e4:IntKind.wrap .i64 (m:Int)=(m:Int):=w64 (by omega) (by omega);rw[e4];have c3:(decide ((0:Int)≤(m:Int))&&(decide ((m:Int)≤(m:Int))&&decide ((m:Int)*16≤(140737488355328:Int))))=true:=by simp;omega
 rw[c3];simp only[g0r,decide_eq_true_eq,if_neg c1,if_neg c2,if_true,Int.lt_irrefl,if_false,Int.toNat_natCast,List.length_replicate];have e5:List.take m [r]=[r]:=by
  cases m with
  | zero=>omega
  | succ m=>simp
 have e6:Go.Flat.putRow (List.replicate m ([]:(List UInt8))) 0 [r]=List.replicate 1 r++List.replicate (m-1) []:=by simp[Go.Flat.putRow]
 rw[e5,e6];have:=rps_loop (n+2) r m h2 (a0b-1) 1 (Nat.le_refl _) h1 (by unfold a0b;omega);rw[show a0b-1+1=a0b by unfold a0b;omega] at this;have e7:(((List.length [r]:Nat)):Int)=((1:Nat):Int):=rfl;rw[e7,this,obs,a0y]
theorem rpb_loop (n m:Nat) (hm:m≤100000):∀(f k:Nat),1≤k→k≤m→m-k≤f →
  c0s (n+1) (f+1) ((m:Int),(m:Int),List.replicate k (0:UInt8),())=some (.inl (List.replicate m 0,())):=by
 intro f;induction f with
 | zero =>
  intro k h1 h2 h3;obtain rfl:k=m:=by omega
  rw[i0z,d0l,obs];dsimp only;rw[List.length_replicate,tfd,if_neg (by omega)]
 | succ f ih =>
  intro k h1 h2 h3;rw[i0z,d0l,obs];dsimp only;rw[List.length_replicate,tfd];by_cases hk:k=m
  ·subst hk;rw[if_neg (by omega)]
  ·rw[if_pos (by omega),d0l,obs];dsimp only;rw[d0l,obs];dsimp only;rw[b0u,obs];dsimp only;rw[List.length_replicate,w64 (by omega) (by omega)];have e:(if (m:Int)<(if (k:Int)<(m:Int)-(k:Int) then (k:Int) else (m:Int)-(k:Int)) then (m:Int) else (if (k:Int)<(m:Int)-(k:Int) then (k:Int) else (m:Int)-(k:Int)))=((min k (m-k):Nat):Int):=by
    split<;>split<;>omega
   rw[e,Int.toNat_natCast];have c1:(decide ((0:Int)≤((min k (m-k):Nat):Int))&&decide (((min k (m-k):Nat):Int)≤((k:Nat):Int)))=true:=by
    rw[Bool.and_eq_true,decide_eq_true_eq,decide_eq_true_eq];omega
   have e2:List.drop 0 (List.take (min k (m-k)) (List.replicate k (0:UInt8)))=List.replicate (min k (m-k)) 0:=by
    rw[List.drop_zero,List.take_replicate];congr 1;omega
   rw[c1,tft,e2,wst n _ _ (by simp;omega),obs];dsimp only;rw[List.replicate_append_replicate];exact ih (k+min k (m-k)) (by omega) (by omega) (by omega)
theorem rep_val (n c:Nat) (hc:c≤8192):strings_Repeat (n+4) [0] (c:Int)=some (List.replicate c 0):=by
 rw[m0o,tfd];by_cases h0:(c:Int)=0
 ·obtain rfl:c=0:=by omega
  rw[if_pos h0];rfl
 rw[if_neg h0,tfd];by_cases h1:(c:Int)=1
 ·obtain rfl:c=1:=by omega
  rw[if_pos h1];rfl
 rw[if_neg h1,tfd,if_neg (by omega),wu64 (x:=(c:Int)) (by omega) (by omega),q0c,mul64 (n+1) 1 (c:Int) (by omega) (by omega)];have e2:(1:Int)*(c:Int) / 18446744073709551616=0:=by omega
 have e3:(1:Int)*(c:Int) % 18446744073709551616=(c:Int):=by omega
 rw[e2,e3,obs,obs];dsimp only;rw[tfd,if_neg (by omega),tfd,if_neg (by omega),w64 (x:=(c:Int)) (by omega) (by omega)];have hg:c0w (n+3) [] (c:Int)=some []:=by
  rw[o0t,t1l];rw[show (decide (([]:List UInt8).length=0)&&(decide ((0:Int)≤(c:Int))&&decide ((c:Int)≤70368744177664)))=true by
   rw[Bool.and_eq_true,Bool.and_eq_true,decide_eq_true_eq,decide_eq_true_eq,decide_eq_true_eq]
   exact ⟨rfl,by omega,by omega⟩,tft]
 rw[tfd,if_neg (by omega),hg,obs,wst (n+2) [] _ (by simp),obs];dsimp only;have:=rpb_loop (n+2) c (by omega) (a0b-1) 1 (Nat.le_refl _) (by omega) (by unfold a0b;omega);rw[show a0b-1+1=a0b by unfold a0b;omega] at this
 change a0a (c0s (n+3) a0b ((c:Int),(c:Int),List.replicate 1 (0:UInt8),())) _=_
 rw[this,obs,a0y];dsimp only;rw[b0u,obs]
def cutB {α:Type} (m:Nat) (f:α→List UInt8) (l:List α):List (List UInt8):=(g0i l.length m l).map fun p=>padB (p.flatMap f) 512
theorem m1a {α:Type} {m:Nat} {f:α→List UInt8} {l:List α}:(cutB m f l).length=(g0i l.length m l).length:=by simp[cutB]
theorem s0o {α:Type} {m:Nat} (hm:1≤m) (xs:List α):(g0i xs.length m xs).length≤xs.length:=by
 apply Nat.le_of_not_lt;intro h;have:=(o0d hm xs xs.length).1 h;have:xs.length*1≤xs.length*m:=Nat.mul_le_mul_left _ hm;omega
theorem c1s {α:Type} {m:Nat} (hm:1≤m) {xs:List α} {p:List α} (h:p∈g0i xs.length m xs):p.length≤m∧∀x∈p,x∈xs:=by
 obtain ⟨k,hk⟩:=List.getElem?_of_mem h;rw[p0t hm _ _ (Nat.le_refl _)] at hk;split at hk
 ·injection hk with hk;subst hk;exact ⟨by rw[List.length_take];omega,fun x hx=>List.mem_of_mem_drop (List.mem_of_mem_take hx)⟩
 ·cases hk
theorem w1f {α:Type} {w:Nat} {f:α→List UInt8}:∀l:List α,(∀x∈l,(f x).length=w)→(l.flatMap f).length=l.length*w
 | [],_=>by simp
 | x::l,h=>by
  rw[List.flatMap_cons,List.length_append,h x List.mem_cons_self,w1f l fun y hy=>h y (List.mem_cons_of_mem _ hy),List.length_cons,Nat.add_mul];omega
theorem q1a {α:Type} (xs:List α) (m:Nat) (hm:1≤m) (hx:xs.length+m≤1000000000):m0i xs (m:Int)=some ((g0i xs.length m xs).map fun l=>(l,())):=by
 unfold m0i;rw[show (decide (1≤(m:Int))&&decide ((xs.length:Int)+(m:Int)≤4611686018427387904))=true by rw[Bool.and_eq_true,decide_eq_true_eq,decide_eq_true_eq];omega,tft,Int.toNat_natCast]
theorem q0t (n:Nat) (s:List UInt8) (k:Nat) (hs:s.length≤1000000000) (hk:k≤8000):f0l (n+5) s (k:Int)=some (padB s k):=by
 rw[p1f,w64 (by omega) (by omega)];have e:(if (k:Int)-((s.length:Nat):Int)<0 then (0:Int) else (k:Int)-((s.length:Nat):Int))=((k-s.length:Nat):Int):=by split<;>omega
 rw[e,rep_val n (k-s.length) (by omega),obs,tfd,if_pos (by simp;omega)];rfl
theorem g2r (n:Nat) (e:Ev):p0m (n+6) e=some (t0o e):=by
 have hl:=n0n e;rw[e1z,b1j (n+2) [] e (by simp),obs,b1x (n+4),obs,List.nil_append];dsimp only;rw[show ((32:Int))=((32:Nat):Int) from rfl,q0t n _ 32 (by rw[i0a];omega) (by omega),obs];rfl
theorem v1b (n:Nat) (s:Slo):i0j (n+6) s=some (m0p s):=by
 have e1:=n0n s.2.2.1;have e2:=n0n s.2.2.2.1;have hl:=v1c s;have h1:∀x y:Int,[x,y].flatMap n8I=n8I x++n8I y:=fun x y=>by simp
 have h5:∀a b x y z:Int,[IntKind.wrap .i64 a,IntKind.wrap .i64 b,x,y,z].flatMap n8I=n8I a++(n8I b++(n8I x++(n8I y++n8I z))):=fun a b x y z=>by simp[e2q]
 have l1:∀x y:Int,(n8I x++n8I y).length=16:=fun x y=>by simp[u0a]
 rw[l1a,v0y (n+3) [] _ (by simp) (by simp),obs,h1,List.nil_append,b1j (n+2) _ _ (by rw[l1];omega),obs,b1j (n+2) _ _ (by rw[List.length_append,l1];omega),obs,
  v0y (n+3) _ _ (by simp) (by rw[List.length_append,List.length_append,l1,e1,e2];simp),obs,h5,b1x (n+4),obs]
 dsimp only;have es:n8I s.1++n8I s.2.1++v0o s.2.2.1++v0o s.2.2.2.1++(n8I s.2.2.2.2.1.1++(n8I s.2.2.2.2.1.2++(n8I s.2.2.2.2.2.1++(n8I s.2.2.2.2.2.2.1++n8I s.2.2.2.2.2.2.2))))=sloI s:=by
  unfold sloI;simp only[List.append_assoc]
 rw[es,show ((128:Int))=((128:Nat):Int) from rfl,q0t n _ 128 (by rw[i0a];omega) (by omega),obs];rfl
theorem u1b (n:Nat) (g:Ev→List UInt8) (bytes:(Ev×Unit)→Option (List UInt8)) (hb:∀x,bytes (x,())=some (g x)) (hg:∀x,(g x).length≤512) (out:List (List UInt8)) (l:List Ev) (hl:l.length≤100000):∀(rest pre:List Ev) (f:Nat) (b:List UInt8) (i:Int),l=pre++rest→i=pre.length→b.length+512*rest.length≤1000000000 →
  f0b (n+1) (f+rest.length+1) (out,bytes,b,l,(l.length:Int),i,())=some (.inl (out,bytes,b++rest.flatMap g,())):=by
 intro rest;induction rest with
 | nil =>
  intro pre f b i h hi hw;rw[j0h];simp only[tfd,if_neg (idxe h hi rfl)];simp
 | cons a rest ih =>
  intro pre f b i h hi hw;have hlen:=congrArg List.length h;simp at hlen hw;have ha:=hg a;rw[show f+(a::rest).length+1=(f+rest.length+1)+1 by simp;omega,j0h];simp only[tfd,if_pos (idx h hi rfl)];rw[b0v h hi,obs,hb,obs,wst n b (g a) (by omega),obs];dsimp only;rw[w64 (x:=i+1) (by omega) (by omega),ih (pre++[a]) f _ (i+1) (idxl h) (idxs hi) (by simp;omega)];simp
theorem u1a (n:Nat) (g:Ev→List UInt8) (bytes:(Ev×Unit)→Option (List UInt8)) (hb:∀x,bytes (x,())=some (g x)) (hg:∀x,(g x).length≤512):∀(P:List (List Ev)) (out:List (List UInt8)),(∀p∈P,p.length≤1000)→out.length+P.length≤1000000 →
  d0s (n+5) (P.map fun p=>(p,())) (out,bytes,())=some (out++P.map (fun p=>padB (p.flatMap g) 512),bytes,()):=by
 intro P;induction P with
 | nil=>intro out _ _;rw[List.map_nil,q0g];simp
 | cons p P ih =>
  intro out hp ho;simp only[List.length_cons] at ho;have h1:=hp p List.mem_cons_self;have:=u1b (n+4) g bytes hb hg out p (by omega) p [] (a0b-p.length-1) [] 0 rfl rfl (by simp;omega);rw[←lfu (by omega)] at this;have hfl:(p.flatMap g).length≤1000000:=by
   have key:∀q:List Ev,(q.flatMap g).length≤512*q.length:=by
    intro q;induction q with
    | nil=>simp
    | cons x q ih=>have:=hg x;rw[List.flatMap_cons,List.length_append,List.length_cons];omega
   have:=key p;omega
  rw[List.map_cons,p0l];dsimp only;rw[this,obs,a0y];dsimp only;rw[b0u,obs,List.nil_append];dsimp only;rw[show ((512:Int))=((512:Nat):Int) from rfl,q0t n _ 512 (by omega) (by omega),obs,tfd,if_pos (by omega),obs,ih (out++[padB (p.flatMap g) 512]) (fun q hq=>hp q (List.mem_cons_of_mem _ hq)) (by simp;omega)];simp
theorem p1v (n:Nat) (g:Ev→List UInt8) (bytes:(Ev×Unit)→Option (List UInt8)) (hb:∀x,bytes (x,())=some (g x)) (hg:∀x,(g x).length≤512) (out:List (List UInt8)) (l:List Ev) (m:Nat) (hm:1≤m) (hm':m≤1000) (hl:l.length≤100000) (ho:out.length≤100000) :
  l0m (n+6) out l (m:Int) bytes=some (out++cutB m g l):=by
 have hc:=s0o hm l;rw[w0i,x0h,q1a l m hm (by omega),obs,u1a n g bytes hb hg _ out (fun p hp=>by have:=(c1s hm hp).1;omega) (by omega),obs];rfl
theorem a2w (n:Nat) (g:Slo→List UInt8) (bytes:(Slo×Unit)→Option (List UInt8)) (hb:∀x,bytes (x,())=some (g x)) (hg:∀x,(g x).length≤512) (out:List (List UInt8)) (l:List Slo) (hl:l.length≤100000):∀(rest pre:List Slo) (f:Nat) (b:List UInt8) (i:Int),l=pre++rest→i=pre.length→b.length+512*rest.length≤1000000000 →
  g0a (n+1) (f+rest.length+1) (out,bytes,b,l,(l.length:Int),i,())=some (.inl (out,bytes,b++rest.flatMap g,())):=by
 intro rest;induction rest with
 | nil =>
  intro pre f b i h hi hw;rw[j0z];simp only[tfd,if_neg (idxe h hi rfl)];simp
 | cons a rest ih =>
  intro pre f b i h hi hw;have hlen:=congrArg List.length h;simp at hlen hw;have ha:=hg a;rw[show f+(a::rest).length+1=(f+rest.length+1)+1 by simp;omega,j0z];simp only[tfd,if_pos (idx h hi rfl)];rw[b0v h hi,obs,hb,obs,wst n b (g a) (by omega),obs];dsimp only;rw[w64 (x:=i+1) (by omega) (by omega),ih (pre++[a]) f _ (i+1) (idxl h) (idxs hi) (by simp;omega)];simp
theorem a2v (n:Nat) (g:Slo→List UInt8) (bytes:(Slo×Unit)→Option (List UInt8)) (hb:∀x,bytes (x,())=some (g x)) (hg:∀x,(g x).length≤512):∀(P:List (List Slo)) (out:List (List UInt8)),(∀p∈P,p.length≤1000)→out.length+P.length≤1000000 →
  e0g (n+5) (P.map fun p=>(p,())) (out,bytes,())=some (out++P.map (fun p=>padB (p.flatMap g) 512),bytes,()):=by
 intro P;induction P with
 | nil=>intro out _ _;rw[List.map_nil,r0g];simp
 | cons p P ih =>
  intro out hp ho;simp only[List.length_cons] at ho;have h1:=hp p List.mem_cons_self;have:=a2w (n+4) g bytes hb hg out p (by omega) p [] (a0b-p.length-1) [] 0 rfl rfl (by simp;omega);rw[←lfu (by omega)] at this;have hfl:(p.flatMap g).length≤1000000:=by
   have key:∀q:List Slo,(q.flatMap g).length≤512*q.length:=by
    intro q;induction q with
    | nil=>simp
    | cons x q ih=>have:=hg x;rw[List.flatMap_cons,List.length_append,List.length_cons];omega
   have:=key p;omega
  rw[List.map_cons,q0f];dsimp only;rw[this,obs,a0y];dsimp only;rw[b0u,obs,List.nil_append];dsimp only;rw[show ((512:Int))=((512:Nat):Int) from rfl,q0t n _ 512 (by omega) (by omega),obs,tfd,if_pos (by omega),obs,ih (out++[padB (p.flatMap g) 512]) (fun q hq=>hp q (List.mem_cons_of_mem _ hq)) (by simp;omega)];simp
theorem t1z (n:Nat) (g:Slo→List UInt8) (bytes:(Slo×Unit)→Option (List UInt8)) (hb:∀x,bytes (x,())=some (g x)) (hg:∀x,(g x).length≤512) (out:List (List UInt8)) (l:List Slo) (m:Nat) (hm:1≤m) (hm':m≤1000) (hl:l.length≤100000) (ho:out.length≤100000) :
  g0m (n+6) out l (m:Int) bytes=some (out++cutB m g l):=by
 have hc:=s0o hm l;rw[x0z,z0q,q1a l m hm (by omega),obs,a2v n g bytes hb hg _ out (fun p hp=>by have:=(c1s hm hp).1;omega) (by omega),obs];rfl
def g1g (lost room:Nat):Nat→List Ev→List Ev→List Ev
 | _,[],out=>out
 | k,e::L,out=>g1g lost room (k+1) L (out.set ((lost+k) % room) e)
def v0s (r:Rw) (room:Int):List Ev:=g1g r.1.toNat room.toNat 0 r.2.2 (List.replicate room.toNat e0)
theorem g1f (lost room:Nat):∀(L:List Ev) (k:Nat) (out:List Ev),(g1g lost room k L out).length=out.length
 | [],_,_=>rfl
 | e::L,k,out=>by rw[g1g,g1f lost room L];simp
theorem round_l3 (n:Nat) (room:Int) (r:Rw) (h1:1≤room) (h2:room≤4096) (h3:0≤r.1) (h4:r.1≤70368744177664) (hL:r.2.2.length≤100000):∀(rest pre:List Ev) (f:Nat) (out:List Ev) (i:Int),r.2.2=pre++rest→i=pre.length→(out.length:Int)=room →
  i0v n (f+rest.length+1) (room,r,out,r.2.2,(r.2.2.length:Int),i,())=some (.inl (g1g r.1.toNat room.toNat pre.length rest out,())):=by
 intro rest;induction rest with
 | nil =>
  intro pre f out i h hi ho;rw[n0y];simp only[tfd,if_neg (idxe h hi rfl)];rfl
 | cons a rest ih =>
  intro pre f out i h hi ho;have hlen:=congrArg List.length h;simp at hlen;have hpos:Int.tmod (IntKind.wrap .i64 (r.1+i)) room=(((r.1.toNat+pre.length) % room.toNat:Nat):Int):=by
   rw[w64 (by omega) (by omega),Int.tmod_eq_emod_of_nonneg (by omega),Int.natCast_emod,hi,Int.natCast_add,Int.toNat_of_nonneg h3,Int.toNat_of_nonneg (by omega)]
  have hlt:(r.1.toNat+pre.length) % room.toNat<out.length:=by
   have:=Nat.mod_lt (r.1.toNat+pre.length) (show 0<room.toNat by omega);omega
  rw[show f+(a::rest).length+1=(f+rest.length+1)+1 by simp;omega,n0y];simp only[tfd,if_pos (idx h hi rfl)];rw[b0v h hi,obs,if_neg (by omega),hpos,Int.toNat_natCast,f1p (List.getElem?_eq_getElem hlt),obs,List.getElem?_eq_getElem hlt,obs,w64 (x:=i+1) (by omega) (by omega),
   ih (pre++[a]) f _ (i+1) (idxl h) (idxs hi) (by simpa using ho)]
  simp[g1g]
theorem d2l (n:Nat) {r:Rw} {room:Int} (h:RawOk r room):u0c (n+1) r room=some (v0s r room):=by
 have h1:=h.m0;have h2:=h.m1;have h3:=h.len;rw[e1u];have c1:(decide ((0:Int)≤room)&&(decide (room≤room)&&decide (room*(32:Int)≤(140737488355328:Int))))=true:=by
  rw[Bool.and_eq_true,Bool.and_eq_true,decide_eq_true_eq,decide_eq_true_eq,decide_eq_true_eq];omega
 have:=round_l3 n room r h1 h2 h.l0 h.l1 (by omega) r.2.2 [] (a0b-r.2.2.length-1) (List.replicate room.toNat e0) 0 rfl rfl (by simp;omega);rw[←lfu (by omega)] at this;rw[c1,tft];have e:List.replicate (Int.toNat room) ((0:Int),((0:Int),((0:Int),false)))=List.replicate room.toNat e0:=rfl;rw[e,this,obs,a0y];rfl
theorem i1t {n:Nat} (h:n<128):(uvB n).length=1:=by rw[n1a h];rfl
theorem uvB_two {n:Nat} (h:n<16384):(uvB n).length≤2:=by
 by_cases h1:n<128
 ·rw[i1t h1];omega
 ·rw[u1t h1,List.length_cons,i1t (by omega)];omega
theorem f2i:∀(l:List Lab),(∀x∈l,x.1.length≤64∧x.2.length≤128)→((l.flatMap fun x=>txB x.1++txB x.2).length:Int)≤3*(l.length:Int)+sumL l
 | [],_=>by simp[sumL]
 | x::l,h=>by
  have ih:=f2i l fun y hy=>h y (List.mem_cons_of_mem _ hy)
  obtain ⟨h1,h2⟩:=h x List.mem_cons_self;have e1:=i1t (n:=x.1.length) (by omega);have e2:=uvB_two (n:=x.2.length) (by omega);rw[b1b,List.flatMap_cons];simp only[txB,List.length_append,List.length_cons] at ih ⊢;omega
theorem t1c {l:List Lab} (h:LabOk l):(labB l).length≤320:=by
 have h1:=f2i l (w1u l none h.c);have h2:=h.n1;have h3:=h.t;have e1:=i1t (n:=l.length) (by omega);have h4:(labB l).length=1+(l.flatMap fun x=>txB x.1++txB x.2).length:=by unfold labB;rw[List.length_append,e1]
 omega
def p1n (x:Ser):List UInt8 :=
 toB (beI 2 ((labB x.1).length:Int))++(padB (labB x.1) 320++(n8B x.2.1++(n8B x.2.2.1.1++(n8B x.2.2.1.2.1++(toB (beI 2 (x.2.2.1.2.2.length:Int))++m0p x.2.2.2.2)))))
def h1u (x:Ser):List UInt8:=padB (p1n x) 512
def zsec:List UInt8:=List.replicate 512 0
noncomputable def l0g (c:Conf) (x:Ser):List (List UInt8) :=
 if x=ser0 then List.replicate (plc c).toNat zsec
 else h1u x::(cutB 16 t0o (v0s x.2.2.1 c.1)++(cutB 4 m0p x.2.2.2.1.1++(cutB 4 m0p x.2.2.2.1.2.1++cutB 4 m0p x.2.2.2.1.2.2)))
def v1r:List UInt8:=[112,108,105,109,115,111,108,108]
def f1s (s:Sta):List UInt8:=v1r++(toB (bts s.1)++(n8B s.2.1++n8B (s.2.2.1+1)))
def b1a (s:Sta):List UInt8:=padB (f1s s) 512
noncomputable def allB (s:Sta):List (List UInt8):=b1a s::s.2.2.2.flatMap (l0g s.1)
theorem beI2_len (x:Int):(toB (beI 2 x)).length=2:=by simp[i0a,c0t]
theorem h1s {x:Ser} (h:(labB x.1).length≤320):(p1n x).length=476:=by
 have e1:=s0f (labB x.1) 320;have e2:=n0i x.2.2.2.2;unfold p1n;simp only[List.length_append,beI2_len,e2r,e1,e2];omega
theorem a2j {x:Ser} (h:(labB x.1).length≤320):(h1u x).length=512:=by rw[h1u,s0f,h1s h];rfl
theorem a1u (c:Conf):(toB (bts c)).length=56:=by rw[i0a,b2e]
theorem x1r (s:Sta):(f1s s).length=80:=by
 unfold f1s v1r;simp only[List.length_append,a1u,e2r];rfl
theorem hd_val (n:Nat) {x:Ser} (hl:LabOk x.1) (hr:x.2.2.1.2.2.length≤4096):u0d (n+8) x=some (h1u x,0):=by
 have hlab:=t1c hl;have h2:∀v:Int,(beI 2 v).length=2:=fun v=>by simp[c0t]
 have e1:=s0f (labB x.1) 320;rw[e1v,t1b n x.1,if_pos hl,obs];dsimp only;rw[wu64 (by omega) (by omega),b0s (n+6) [] 2 2 _ rfl (by omega) (by omega) (by simp),obs,List.nil_append,
  show ((320:Int))=((320:Nat):Int) from rfl,q0t (n+2) _ 320 (by omega) (by omega),obs,j1w (n+6) (by rw[h2];omega),obs,
  v0y (n+5) _ _ (by simp) (by simp[h2,i0o];omega),obs,wu64 (by omega) (by omega),b0s (n+6) _ 2 2 _ rfl (by omega) (by omega) (by simp[h2,i0o,u0a];omega),obs,
  v1b (n+1),obs,j1w (n+6) (by simp[h2,i0o,u0a,n0i];omega),obs,b1x (n+6),obs]
 dsimp only;have e:toB (beI 2 ((labB x.1).length:Int)++f0e (padB (labB x.1) 320)++List.flatMap n8I [x.2.1,x.2.2.1.1,x.2.2.1.2.1]++beI 2 (x.2.2.1.2.2.length:Int)++f0e (m0p x.2.2.2.2))=p1n x:=by
  unfold p1n n8B;simp only[c2b,w0w,List.flatMap_cons,List.flatMap_nil,List.append_nil,List.append_assoc]
 rw[e,show ((512:Int))=((512:Nat):Int) from rfl,q0t (n+2) _ 512 (by rw[h1s hlab];omega) (by omega),obs];rfl
theorem h2f (n:Nat) {x:Ser} (h:SerM x):u0e (n+4) x=some (decide (x=ser0)):=by
 have:=b1l n x ser0 h;rw[e1w];have e:f0i (n+3) x ([],((0:Int),(((0:Int),((0:Int),[])),(([],([],[])),((0:Int),z0)))))=some (decide (x=ser0)):=this
 change a0a (f0i (n+3) x ([],((0:Int),(((0:Int),((0:Int),[])),(([],([],[])),((0:Int),z0)))))) _=_
 rw[e];rfl
theorem c2d {c:Conf} {x:Ser} (h:SerOk c x):x.2.2.2.1.1.length≤4096∧x.2.2.2.1.2.1.length≤4096∧x.2.2.2.1.2.2.length≤4096:=⟨h.fold.t0.l1,h.fold.t1.l1,h.fold.t2.l1⟩
theorem j1t {r:Rw} {room:Int} (h:RawOk r room):(v0s r room).length=room.toNat∧room.toNat≤4096:=⟨by unfold v0s;rw[g1f];simp,by have:=h.m1;omega⟩
theorem d2v (n:Nat) {c:Conf} {x:Ser} (hc:OkC c) (hw:SerW x) (hm:SerM x):u0g (n+12) c x=some (if x=ser0∨SerOk c x then (l0g c x,0) else ([],2)):=by
 have hr:=hc.rng;have hp:=n0o hr;rw[e1y,a1k (n+8) hc,obs,decide_eq_true (rfl:(0:Int)=0),Bool.not_true,tff,h2f (n+7) hm,obs,tfd];by_cases h0:x=ser0
 ·rw[if_pos h0,if_pos (.inl h0),show ((512:Int))=((512:Nat):Int) from rfl,q0t (n+6) [] 512 (by simp) (by omega),obs,q1p (n+7) hc,obs,
   show plc c=(((plc c).toNat:Nat):Int) by omega,s1e (n+8) _ (plc c).toNat (by omega) (by omega),obs]
  unfold l0g;rw[if_pos h0];rfl
 rw[if_neg h0,y0t n c hw,obs];by_cases hs:SerOk c x
 ·have ht:=c2d hs;have hrd:=j1t hs.raw;have hln:=hs.raw.len;have hlab:=t1c hs.lab;have hch:∀ {α:Type} (m:Nat) (f:α→List UInt8) (l:List α),1≤m→l.length≤4096→(cutB m f l).length≤4096:=fun m f l hm hl=>by
   rw[m1a];have:=s0o hm l;omega
  rw[if_pos hs,if_pos (.inr hs),decide_eq_true (rfl:(0:Int)=0),Bool.not_true,tff,hd_val (n+3) hs.lab (by have:=hs.raw.m1;omega),obs,decide_eq_true (rfl:(0:Int)=0),Bool.not_true,tff,d2l (n+10) hs.raw,obs,
   show ((16:Int))=((16:Nat):Int) from rfl,p1v (n+5) t0o (fun y0=>p0m (n+11) y0.1) (fun e=>g2r (n+5) e) (fun e=>by rw[h1w];omega) _ _ 16 (by omega) (by omega) (by omega) (by simp),obs]
  have c1:=hch 16 t0o (v0s x.2.2.1 c.1) (by omega) (by omega);have c2:=hch 4 m0p x.2.2.2.1.1 (by omega) ht.1;have c3:=hch 4 m0p x.2.2.2.1.2.1 (by omega) ht.2.1;have c4:=hch 4 m0p x.2.2.2.1.2.2 (by omega) ht.2.2;have cv:=fun (out:List (List UInt8)) (l:List Slo) (h1:l.length≤4096) (h2:out.length≤100000)=>t1z (n+5) m0p (fun y0=>i0j (n+11) y0.1) (fun e=>v1b (n+5) e) (fun e=>by rw[n0i];omega) out l 4 (by omega) (by omega) (by omega) h2
  have hl:e0h (n+11) a0b ([h1u x]++cutB 16 t0o (v0s x.2.2.1 c.1),x.2.2.2.1,(0:Int),())=some (.inl (h1u x::(cutB 16 t0o (v0s x.2.2.1 c.1)++(cutB 4 m0p x.2.2.2.1.1++(cutB 4 m0p x.2.2.2.1.2.1++cutB 4 m0p x.2.2.2.1.2.2))),())):=by
   obtain ⟨f,hf⟩:∃f,a0b=f+4:=⟨a0b-4,by unfold a0b;omega⟩;rw[hf,f0c,tfd,if_pos (by omega),tfd,if_pos rfl,show ((4:Int))=((4:Nat):Int) from rfl,cv _ _ ht.1 (by simp;omega),obs,show IntKind.wrap .i64 ((0:Int)+1)=1 from by decide,
    f0c,tfd,if_pos (by omega),tfd,if_neg (by omega),tfd,if_pos rfl,show ((4:Int))=((4:Nat):Int) from rfl,cv _ _ ht.2.1 (by simp;omega),obs,show IntKind.wrap .i64 ((1:Int)+1)=2 from by decide,
    f0c,tfd,if_pos (by omega),tfd,if_neg (by omega),tfd,if_neg (by omega),tfd,if_pos rfl,show ((4:Int))=((4:Nat):Int) from rfl,cv _ _ ht.2.2 (by simp;omega),obs,show IntKind.wrap .i64 ((2:Int)+1)=3 from by decide,
    f0c,tfd,if_neg (by omega)]
   simp
  rw[hl,obs,a0y];unfold l0g;rw[if_neg h0]
 ·rw[if_neg hs,if_neg (by rintro (k | k);exact h0 k;exact hs k)];rfl
theorem c2i (n:Nat) {s:Sta} (hw:StaW s):u0f (n+15) s=some (if StaOk s then (b1a s,0) else ([],2)):=by
 rw[e1x,v0c n hw,obs];by_cases h:StaOk s
 ·have hc:=h.whole.1;have hb:=a1u s.1;have hk:=h.clock;rw[if_pos h,if_pos h,decide_eq_true (rfl:(0:Int)=0),Bool.not_true,tff,bytes_ok (n+10) hc,obs,tfd,if_pos (by omega),j1w (n+13) (by simp[hb]),obs,
   v0y (n+12) _ _ (by simp) (by simp[i0o,hb]),obs,b1x (n+13),obs]
  dsimp only;have hsw:IntKind.wrap .i64 (s.2.2.1+1)=s.2.2.1+1:=by
   obtain ⟨_,k,_⟩:=hk;rcases k with k | ⟨k1,k2⟩
   ·rw[k];decide
   ·exact w64 (by omega) (by omega)
  have e:toB ([]++f0e (v1r++toB (bts s.1))++List.flatMap n8I [s.2.1,IntKind.wrap .i64 (s.2.2.1+1)])=f1s s:=by
   rw[hsw];unfold f1s n8B;simp only[List.nil_append,c2b,w0w,List.flatMap_cons,List.flatMap_nil,List.append_nil,List.append_assoc]
  change a0a (f0l (n+14) (toB ([]++f0e (v1r++toB (bts s.1))++List.flatMap n8I [s.2.1,IntKind.wrap .i64 (s.2.2.1+1)])) 512) _=_
  rw[e,show ((512:Int))=((512:Nat):Int) from rfl,q0t (n+9) _ 512 (by rw[x1r];omega) (by omega),obs];rfl
 ·rw[if_neg h,if_neg h];rfl
theorem y1z {c:Conf} {x:Ser} (hc:OkC c) (h:x=ser0∨SerOk c x):(l0g c x).length≤100000:=by
 have hp:=n0o hc.rng;unfold l0g;split
 ·simp;omega
 ·rename_i h0;have hs:SerOk c x:=h.resolve_left h0;have ht:=c2d hs;have hrd:=j1t hs.raw;have hch:∀ {α:Type} (m:Nat) (f:α→List UInt8) (l:List α),1≤m→l.length≤4096→(cutB m f l).length≤4096:=fun m f l hm hl=>by
   rw[m1a];have:=s0o hm l;omega
  have c1:=hch 16 t0o (v0s x.2.2.1 c.1) (by omega) (by omega);have c2:=hch 4 m0p x.2.2.2.1.1 (by omega) ht.1;have c3:=hch 4 m0p x.2.2.2.1.2.1 (by omega) ht.2.1;have c4:=hch 4 m0p x.2.2.2.1.2.2 (by omega) ht.2.2;simp;omega
theorem v0t {s:Sta} {i:Nat} {x:Ser} (h:q0e s i x):x=ser0∨SerOk s.1 x:=by
 rcases h with h | h
 ·exact .inl h
 ·exact .inr h.1
theorem all_l4 (n:Nat) {s:Sta} (hw:StaW s) (hs:StaOk s):∀(rest pre:List Ser) (f:Nat) (out:List (List UInt8)) (i:Int),s.2.2.2=pre++rest→i=pre.length→out.length≤100000*pre.length+1 →
  m0h (n+12) (f+rest.length+1) (s,(0:Int),out,i,())=some (.inl ((0:Int),out++rest.flatMap (l0g s.1),())):=by
 have hL:=hs.whole.len;intro rest;induction rest with
 | nil =>
  intro pre f out i h hi ho;have hn:¬(i<((s.2.2.2.length:Nat):Int)):=by have:=congrArg List.length h;simp at this;omega
  rw[l0n,tfd,if_pos rfl,tfd,if_neg hn];simp
 | cons a rest ih =>
  intro pre f out i h hi ho;have hlen:=congrArg List.length h;simp at hlen;have hia:s.2.2.2[pre.length]? = some a:=by rw[h];simp
  have hr:=v0t (hs.right pre.length a hia);obtain ⟨w1,w2⟩:=hw.at hia;have hpl:=y1z hs.whole.1 hr;rw[show f+(a::rest).length+1=(f+rest.length+1)+1 by simp;omega,l0n,tfd,if_pos rfl,tfd,if_pos (by omega),b0v h hi,obs,d2v n hs.whole.1 w1 w2,if_pos hr,obs];dsimp only;rw[tfd,if_pos (by omega),w64 (x:=i+1) (by omega) (by omega)];rw[ih (pre++[a]) f _ (i+1) (idxl h) (idxs hi) (by simp;omega)];simp
theorem i2t (n:Nat) {s:Sta} (hw:StaW s):j0i (n+16) s=some (if StaOk s then (allB s,0) else ([],2)):=by
 rw[p1h,c2i n hw,obs];by_cases h:StaOk s
 ·have hL:=h.whole.len;rw[if_pos h,if_pos h];dsimp only;have:=all_l4 (n+3) hw h s.2.2.2 [] (a0b-s.2.2.2.length-1) [b1a s] 0 rfl rfl (by simp);rw[←lfu (by omega)] at this;rw[this,obs,a0y];rfl
 ·rw[if_neg h,if_neg h];obtain ⟨f,hf⟩:∃f,a0b=f+1:=⟨a0b-1,by unfold a0b;omega⟩;dsimp only;rw[hf,l0n,tfd,if_neg (by decide),obs,a0y];rfl
theorem p1z {α:Type} {m:Nat} (hm:1≤m) (xs:List α):(g0i xs.length m xs).length=(xs.length+m-1) / m:=by
 obtain ⟨c,hc⟩:∃c,c=(g0i xs.length m xs).length:=⟨_,rfl⟩;have h1:=(o0d hm xs c);rw[hc] at h1;have h2:¬(g0i xs.length m xs).length*m<xs.length:=fun h=>Nat.lt_irrefl _ (h1.2 h)
 rw[←hc] at h2 ⊢;symm;apply Nat.div_eq_of_lt_le
 ·cases c with
  | zero=>omega
  | succ k =>
   have h3:=(o0d hm xs k).1 (by rw[←hc];omega);rw[Nat.add_mul];omega
 ·rw[Nat.succ_mul];omega
theorem s0m {α:Type} {m:Nat} (hm:1≤m) (f:α→List UInt8) (l:List α):(cutB m f l).length=(l.length+m-1) / m:=by rw[m1a,p1z hm]
theorem a1j {α:Type} {m w:Nat} (hm:1≤m) (hmw:m*w=512) {f:α→List UInt8} {l:List α} (hf:∀x∈l,(f x).length=w):∀s∈cutB m f l,s.length=512:=by
 intro s hs;unfold cutB at hs;obtain ⟨p,hp,rfl⟩:=List.mem_map.1 hs;obtain ⟨h1,h2⟩:=c1s hm hp;rw[s0f,w1f _ fun x hx=>hf x (h2 x hx)];have:p.length*w≤m*w:=Nat.mul_le_mul_right w h1;omega
def nsec (k m:Nat):Nat:=(k+m-1) / m
def Secs (L:List (List UInt8)):Prop:=∀s∈L,s.length=512
theorem Secs.take {L:List (List UInt8)} (h:Secs L) (k:Nat):Secs (L.take k):=fun s hs=>h s (List.mem_of_mem_take hs)
theorem Secs.drop {L:List (List UInt8)} (h:Secs L) (k:Nat):Secs (L.drop k):=fun s hs=>h s (List.mem_of_mem_drop hs)
theorem Secs.le {L:List (List UInt8)} (h:Secs L):∀s∈L,s.length≤1000000:=fun s hs=>by have:=h s hs;omega
def v2 (l:List UInt8):Int:=valI (f0e (l.take 2))
def need (c:Conf):Nat:=nsec c.1.toNat 16+(nsec c.2.2.1.1.toNat 4+nsec c.2.2.1.2.1.toNat 4+nsec c.2.2.1.2.2.toNat 4)
theorem zsec_len:zsec.length=512:=List.length_replicate ..
theorem prt16 {x:Int} (h:0≤x):prt x 16=((nsec x.toNat 16:Nat):Int):=by unfold prt nsec;omega
theorem prt4 {x:Int} (h:0≤x):prt x 4=((nsec x.toNat 4:Nat):Int):=by unfold prt nsec;omega
theorem need_plc {c:Conf} (hc:Rng c):(plc c).toNat=need c+1:=by
 have hr:=hc.raw;have h0:=hc.n0;have h1:=hc.n1;have h2:=hc.n2;unfold plc need;rw[prt16 (by omega),prt4 (by omega),prt4 (by omega),prt4 (by omega)];omega
theorem t0z {c:Conf} {x:Ser} (hc:Rng c) (h:x=ser0∨SerOk c x):Secs (l0g c x)∧(l0g c x).length=(plc c).toNat:=by
 have hn:=need_plc hc;unfold l0g;by_cases h0:x=ser0
 ·rw[if_pos h0];exact ⟨fun s hs=>by rw[(List.mem_replicate.1 hs).2,zsec_len],List.length_replicate ..⟩
 have hs:SerOk c x:=h.resolve_left h0;rw[if_neg h0];have c1:=s0m (m:=16) (by omega) t0o (v0s x.2.2.1 c.1);have c2:=s0m (m:=4) (by omega) m0p x.2.2.2.1.1;have c3:=s0m (m:=4) (by omega) m0p x.2.2.2.1.2.1;have c4:=s0m (m:=4) (by omega) m0p x.2.2.2.1.2.2;have f0:=hs.fold.n0;have f1:=hs.fold.n1;have f2:=hs.fold.n2;have hrd:=j1t hs.raw;constructor
 ·intro s hs';rcases List.mem_cons.1 hs' with q | hs'
  ·rw[q];exact a2j (t1c hs.lab)
  rcases List.mem_append.1 hs' with q | hs'
  ·exact a1j (m:=16) (w:=32) (by omega) (by omega) (fun y _=>h1w y) s q
  rcases List.mem_append.1 hs' with q | hs'
  ·exact a1j (m:=4) (w:=128) (by omega) (by omega) (fun y _=>n0i y) s q
  rcases List.mem_append.1 hs' with q | q
  ·exact a1j (m:=4) (w:=128) (by omega) (by omega) (fun y _=>n0i y) s q
  ·exact a1j (m:=4) (w:=128) (by omega) (by omega) (fun y _=>n0i y) s q
 ·rw[hn,List.length_cons];simp only[List.length_append,c1,c2,c3,c4,hrd.1];unfold need nsec;rw[←f0,←f1,←f2];simp only[Int.toNat_natCast];omega
theorem h1q {α β:Type} {m:Nat} {g:α→List β}:∀l:List α,(∀x∈l,(g x).length=m)→(l.flatMap g).length=l.length*m
 | [],_=>by simp
 | x::l,h=>by
  rw[List.flatMap_cons,List.length_append,h x List.mem_cons_self,h1q l fun y hy=>h y (List.mem_cons_of_mem _ hy),List.length_cons,Nat.add_mul];omega
abbrev Chg:=Int×List UInt8
def i0l (a:List (List UInt8)) (from_:Int):Nat→List (List UInt8)→List Chg
 | _,[]=>[]
 | i,x::r=>if a[i]? = some x then i0l a from_ (i+1) r else (from_+(i:Int),x)::i0l a from_ (i+1) r
theorem w1l (a:List (List UInt8)) (from_:Int):∀(r:List (List UInt8)) (i:Nat),(i0l a from_ i r).length≤r.length
 | [],_=>by simp[i0l]
 | x::r,i=>by
  have:=w1l a from_ r (i+1);unfold i0l;split
  ·rw[List.length_cons];omega
  ·rw[List.length_cons,List.length_cons];omega
theorem diff_l3 (n:Nat) (a b:List (List UInt8)) (from_:Int) (hf0:0≤from_) (hf1:from_≤2000000000000) (hb:b.length≤10000000):∀(rest pre:List (List UInt8)) (f:Nat) (out:List Chg) (i:Int),b=pre++rest→i=pre.length→out.length≤pre.length →
  g0b n (f+rest.length+1) (a,from_,out,b,(b.length:Int),i,())=some (.inl (out++i0l a from_ pre.length rest,())):=by
 intro rest;induction rest with
 | nil =>
  intro pre f out i h hi ho;rw[q0d,tfd,if_neg (idxe h hi rfl)];simp[i0l]
 | cons x rest ih =>
  intro pre f out i h hi ho;have hlen:=congrArg List.length h;simp at hlen;subst hi;have hadd:(out++[(from_+(pre.length:Int),x)]).length≤(pre++[x]).length:=by simp;omega
  have i1:=ih (pre++[x]) f (out++[(from_+(pre.length:Int),x)]) ((pre.length:Int)+1) (idxl h) (idxs rfl) hadd;have i2:=ih (pre++[x]) f out ((pre.length:Int)+1) (idxl h) (idxs rfl) (by simp;omega);rw[show (pre++[x]).length=pre.length+1 by simp] at i1 i2;rw[show f+(x::rest).length+1=(f+rest.length+1)+1 by simp;omega,q0d,tfd,if_pos (idx h rfl rfl),b0v h rfl,obs,tfd,w64 (x:=from_+(pre.length:Int)) (by omega) (by omega),w64 (x:=(pre.length:Int)+1) (by omega) (by omega)];by_cases hk:(a.length:Int)≤(pre.length:Int)
  ·rw[if_pos hk,tfd,if_pos (by omega),i1,i0l,if_neg (by rw[List.getElem?_eq_none (by omega)];simp),List.append_assoc];rfl
  ·have hlt:pre.length<a.length:=by omega
   have hg:a[pre.length]? = some a[pre.length]:=List.getElem?_eq_getElem hlt;rw[if_neg hk,f1p hg,obs,tfn,i0l,hg];by_cases he:a[pre.length]=x
   ·rw[he,beq_self_eq_true,tft,i2,if_pos rfl]
   ·rw[beq_eq_false_iff_ne.2 he,tff,tfd,if_pos (by omega),i1,if_neg (by simpa using he),List.append_assoc];rfl
theorem diff_val (n:Nat) (a b:List (List UInt8)) (from_:Int) (hf0:0≤from_) (hf1:from_≤2000000000000) (hb:b.length≤10000000):n0z (n+1) a b from_=some (i0l a from_ 0 b):=by
 rw[l1b];have:=diff_l3 n a b from_ hf0 hf1 hb b [] (a0b-b.length-1) [] 0 rfl rfl (by simp);rw[←lfu (by omega)] at this;rw[this,obs,a0y];rfl
theorem w1m (a:List (List UInt8)) (from_:Int):∀(p q:List (List UInt8)) (i:Nat),i0l a from_ i (p++q)=i0l a from_ i p++i0l a from_ (i+p.length) q
 | [],q,i=>by simp[i0l]
 | x::p,q,i=>by
  have ih:=w1m a from_ p q (i+1);rw[List.cons_append,i0l,i0l,ih,show i+(x::p).length=i+1+p.length by rw[List.length_cons];omega];split<;>simp
theorem p1u (a:List (List UInt8)) (from_:Int):∀(r:List (List UInt8)) (i:Nat),(∀j,j<r.length→a[i+j]? = r[j]?)↔i0l a from_ i r=[]
 | [],i=>by simp[i0l]
 | x::r,i=>by
  have ih:=p1u a from_ r (i+1);rw[i0l];constructor
  ·intro h;have h0:=h 0 (by simp);rw[if_pos (by simpa using h0)];exact ih.1 fun j hj=>by have:=h (j+1) (by simp;omega);rw[show i+(j+1)=i+1+j by omega] at this;simpa using this
  ·intro h j hj;by_cases k:a[i]? = some x
   ·rw[if_pos k] at h;cases j with
    | zero=>simpa using k
    | succ j =>
     have:=ih.2 h j (by simp at hj;omega);rw[show i+(j+1)=i+1+j by omega];simpa using this
   ·rw[if_neg k] at h;cases h
theorem t1w (g:Ser→List (List UInt8)) (m:Nat):∀(xs ys:List Ser) (pre A:List (List UInt8)),xs.length=ys.length→(∀x∈xs,(g x).length=m)→(∀y∈ys,(g y).length=m)→A=pre++xs.flatMap g→(i0l A 0 pre.length (ys.flatMap g)).length≤chgN xs ys*m:=by
 intro xs;induction xs with
 | nil =>
  intro ys pre A hl _ _ _;have:ys=[]:=List.length_eq_zero_iff.1 (by simpa using hl.symm);subst this;simp[i0l]
 | cons x xs ih =>
  intro ys pre A hl hx hy hA;cases ys with
  | nil=>simp at hl
  | cons y ys =>
   simp at hl;have lx:=hx x (by simp);have ly:=hy y (by simp);have IH:=ih ys (pre++g x) A hl (fun z hz=>hx z (by simp[hz])) (fun z hz=>hy z (by simp[hz])) (by rw[hA,List.flatMap_cons,List.append_assoc]);rw[List.length_append,lx] at IH;rw[List.flatMap_cons,w1m,List.length_append,ly,chgN,Nat.add_mul];refine Nat.add_le_add ?_ IH;by_cases e:x=y
   ·rw[if_pos e,Nat.zero_mul];have:i0l A 0 pre.length (g y)=[]:=(p1u _ 0 _ _).1 fun j hj=>by
     rw[hA,List.getElem?_append_right (by omega),Nat.add_sub_cancel_left,List.flatMap_cons,←e,List.getElem?_append_left (by rw[e];exact hj)]
    rw[this];simp
   ·rw[if_neg e,Nat.one_mul,←ly];exact w1l _ _ _ _
theorem h2y {s t:Sta} (hs:StaOk s) {ls:List (List Lab)} (h:Chgd s t ls):(i0l (allB s) 0 0 (allB t)).length≤ls.length*(plc s.1).toNat:=by
 have hsup:b1a t=b1a s:=by
  unfold b1a f1s;rw[h.c,h.n,h.w]
 have hsx:∀x∈s.2.2.2,(l0g s.1 x).length=(plc s.1).toNat:=fun x hx=>by
  obtain ⟨i,hi⟩:=List.mem_iff_getElem?.1 hx;exact (t0z hs.whole.1.rng (v0t (hs.right i x hi))).2
 have htx:∀x∈t.2.2.2,(l0g s.1 x).length=(plc s.1).toNat:=fun x hx=>by
  obtain ⟨i,hi⟩:=List.mem_iff_getElem?.1 hx;have:=(t0z h.ok.whole.1.rng (v0t (h.ok.right i x hi))).2;rw[h.c] at this;exact this
 have hb:=t1w (l0g s.1) (plc s.1).toNat s.2.2.2 t.2.2.2 [b1a s] (allB s) h.len.symm hsx htx rfl;have hn:=Nat.mul_le_mul_right (plc s.1).toNat (a2x h);have e:i0l (allB s) 0 0 (allB t)=i0l (allB s) 0 1 (t.2.2.2.flatMap (l0g s.1)):=by
  unfold allB;rw[h.c,hsup,i0l,if_pos (by simp)]
 rw[e];exact Nat.le_trans hb hn
end Go.Proofs.YtjffajodppnejaaGreatDoor
namespace Go.Proofs.YtjffajodppnejaaGreatDoor
open Go.Flat
theorem ob {α β:Type} {o:Option α} {x:α} {f:α→Option β} {r:Option β} (h:o=some x) (k:f x=r):a0a o f=r:=by rw[h];exact k
theorem tt {α:Type} {b:Bool} {x y r:α} (h:b=true) (k:x=r):tif b x y=r:=by rw[h];exact k
theorem tf {α:Type} {b:Bool} {x y r:α} (h:b=false) (k:y=r):tif b x y=r:=by rw[h];exact k
theorem atFuel {α σ:Type} {g:Nat→σ→Option α} {c:Nat} {s:σ} {r:Option α} (k:g (a0b-c+c) s=r) (h:c≤a0b):g a0b s=r:=by rw[Nat.sub_add_cancel h] at k;exact k
end Go.Proofs.YtjffajodppnejaaGreatDoor
namespace Go.Proofs.YtjffajodppnejaaGreatDoor
open Go.Flat
set_option linter.unusedVariables false
theorem d1y (n:Nat)  : c1f (n+1)  =
 a0a (f2m n ) fun r0 =>
 a0a (c2k n r0) fun r1 =>
 tif ((!(decide (r1.2=(0:Int))))) (
 some false) (
 a0a (i0r n ((((((97:UInt8)::[]),[])::[]),((3:Int),((1:Int),((0:Int),false))))::((((((98:UInt8)::[]),[])::[]),((4:Int),((0:Int),((0:Int),false))))::((((((97:UInt8)::[]),[])::[]),((3:Int),((1:Int),((0:Int),false))))::[])))) fun r2 =>
 a0a (i0r n ((((((97:UInt8)::[]),[])::[]),((3:Int),((1:Int),((0:Int),false))))::((((((98:UInt8)::[]),[])::[]),((4:Int),((0:Int),((0:Int),false))))::((((((97:UInt8)::[]),[])::[]),((5:Int),((9:Int),((0:Int),false))))::[])))) fun r3 =>
 a0a (i0r n []) fun r4 =>
 a0a (d1c n ((((((97:UInt8)::[]),[])::[]),((3:Int),((1:Int),((0:Int),false))))::((((((98:UInt8)::[]),[])::[]),((4:Int),((0:Int),((0:Int),false))))::((((((97:UInt8)::[]),[])::[]),((5:Int),((9:Int),((0:Int),false))))::[])))) fun r5 =>
 a0a (d0k n (1:Int) ((((((97:UInt8)::[]),[])::[]),((3:Int),((1:Int),((0:Int),false))))::((((((98:UInt8)::[]),[])::[]),((4:Int),((0:Int),((0:Int),false))))::((((((97:UInt8)::[]),[])::[]),((5:Int),((9:Int),((0:Int),false))))::[])))) fun r6 =>
 a0a (d0k n (2:Int) ((((((97:UInt8)::[]),[])::[]),((3:Int),((1:Int),((0:Int),false))))::((((((98:UInt8)::[]),[])::[]),((4:Int),((0:Int),((0:Int),false))))::((((((97:UInt8)::[]),[])::[]),((5:Int),((9:Int),((0:Int),false))))::[])))) fun r7 =>
 a0a (i0q n r1.1 ((((((97:UInt8)::[]),[])::[]),((3:Int),((1:Int),((0:Int),false))))::((((((98:UInt8)::[]),[])::[]),((4:Int),((0:Int),((0:Int),false))))::((((((97:UInt8)::[]),[])::[]),((3:Int),((1:Int),((0:Int),false))))::((((((97:UInt8)::[]),[])::[]),((5:Int),((9:Int),((0:Int),false))))::[]))))) fun r8 =>
 tif ((!(decide ((((List.length r6):Nat):Int)=(3:Int))))) (
 some false) (
 tif ((!(decide ((((List.length r7):Nat):Int)=(1:Int))))) (
 some false) (
 tif ((!(decide ((((List.length r8.1.2.2.2):Nat):Int)=(3:Int))))) (
 some false) (
 tif ((decide (r2.1=(2:Int)))) (
 tif ((decide (r2.2=(9:Int)))) (
 tif ((decide (r3.1=(0:Int)))) (
 tif ((decide (r3.2=(0:Int)))) (
 tif ((decide (r4.2=(6:Int)))) (
 a0a (j0b n r5 ((((((97:UInt8)::[]),[])::[]),((3:Int),((1:Int),((0:Int),false))))::((((((97:UInt8)::[]),[])::[]),((5:Int),((9:Int),((0:Int),false))))::((((((98:UInt8)::[]),[])::[]),((4:Int),((0:Int),((0:Int),false))))::[])))) fun r9 =>
 tif (r9) (
 a0a (at? r7 (0:Int)) fun r10 =>
 tif ((decide ((((List.length r10):Nat):Int)=(3:Int)))) (
 a0a (d0k n (0:Int) ((((((97:UInt8)::[]),[])::[]),((3:Int),((1:Int),((0:Int),false))))::[])) fun r11 =>
 tif ((decide ((((List.length r11):Nat):Int)=(0:Int)))) (
 a0a (e0x n r1.1.1) fun r12 =>
 tif ((decide (r12=(1:Int)))) (
 a0a (e0x n ((0:Int),(((0:Int),((0:Int),(0:Int))),(((0:Int),((0:Int),(0:Int))),((0:Int),(0:Int)))))) fun r13 =>
 tif ((decide (r13=(0:Int)))) (
 a0a (t0h n r8.2 ((0:Int)::((0:Int)::((9:Int)::((0:Int)::[]))))) fun r14 =>
 tif (r14) (
 a0a (u1z n r8.1) fun r15 =>
 tif ((decide (r15=(2:Int)))) (
 a0a (at? r8.1.2.2.2 (0:Int)) fun r16 =>
 some (decide (r16.2.1=(5:Int)))) (
 some false)) (
 some false)) (
 some false)) (
 some false)) (
 some false)) (
 some false)) (
 some false)) (
 some false)) (
 some false)) (
 some false)) (
 some false)) (
 some false))))):=by kernel_rfl
abbrev zC:Int×((Int×(Int×(Int×Bool)))×((Int×(Int×(Int×Bool)))×((Int×Int)×(Int×(Int×Int))))):=(0,((0,(0,(0,false))),((0,(0,(0,false))),((0,0),(0,(0,0))))))
abbrev zS:Int×(Int×((Int×(Int×(Int×Bool)))×((Int×(Int×(Int×Bool)))×((Int×Int)×(Int×(Int×Int)))))):=(0,zC)
abbrev c0k:a0z:=((20,((10,(20,60)),((4,(5,6)),(3,9)))),(0,((-1),[([([97],[])],(5,((0,(0,[(3,(1,(0,false))),(5,(9,(0,false)))])),(([zS,zS,zS,zS],([zS,zS,zS,zS,zS],[zS,zS,zS,zS,zS,zS])),(0,(2,((3,(1,(0,false))),((5,(9,(0,false))),((0,8),(0,(0,2))))))))))),([([98],[])],(4,((0,(0,[(4,(0,(0,false)))])),(([zS,zS,zS,zS],([zS,zS,zS,zS,zS],[zS,zS,zS,zS,zS,zS])),(0,(1,((4,(0,(0,false))),((4,(0,(0,false))),((0,0),(0,(0,0))))))))))),([],(0,((0,(0,[])),(([],([],[])),zS))))])))
abbrev g0l:a0z:=((20,((10,(20,60)),((4,(5,6)),(3,9)))),(0,((-1),[([([97],[])],(3,((0,(0,[(3,(1,(0,false)))])),(([zS,zS,zS,zS],([zS,zS,zS,zS,zS],[zS,zS,zS,zS,zS,zS])),(0,(1,((3,(1,(0,false))),((3,(1,(0,false))),((0,0),(0,(0,0))))))))))),([([98],[])],(4,((0,(0,[(4,(0,(0,false)))])),(([zS,zS,zS,zS],([zS,zS,zS,zS,zS],[zS,zS,zS,zS,zS,zS])),(0,(1,((4,(0,(0,false))),((4,(0,(0,false))),((0,0),(0,(0,0))))))))))),([],(0,((0,(0,[])),(([],([],[])),zS))))])))
abbrev m0y:a0z:=((20,((10,(20,60)),((4,(5,6)),(3,9)))),(0,((-1),[([([97],[])],(3,((0,(0,[(3,(1,(0,false)))])),(([zS,zS,zS,zS],([zS,zS,zS,zS,zS],[zS,zS,zS,zS,zS,zS])),(0,(1,((3,(1,(0,false))),((3,(1,(0,false))),((0,0),(0,(0,0))))))))))),([],(0,((0,(0,[])),(([],([],[])),zS)))),([],(0,((0,(0,[])),(([],([],[])),zS))))])))
theorem k1r (n:Nat):f2m (n+59)=some (20,((10,(20,60)),((4,(5,6)),(3,9)))):=by kernel_rfl
theorem k1q (n:Nat):c2k (n+59) (20,((10,(20,60)),((4,(5,6)),(3,9))))=some (((20,((10,(20,60)),((4,(5,6)),(3,9)))),(0,((-1),[([],(0,((0,(0,[])),(([],([],[])),zS)))),([],(0,((0,(0,[])),(([],([],[])),zS)))),([],(0,((0,(0,[])),(([],([],[])),zS))))]))),0):=by kernel_rfl
theorem k1p (n:Nat):i0r (n+59) [([([97],[])],(3,(1,(0,false)))),([([98],[])],(4,(0,(0,false)))),([([97],[])],(3,(1,(0,false))))]=some (2,9):=by kernel_rfl
theorem k1o (n:Nat):i0r (n+59) [([([97],[])],(3,(1,(0,false)))),([([98],[])],(4,(0,(0,false)))),([([97],[])],(5,(9,(0,false))))]=some (0,0):=by kernel_rfl
theorem k1n (n:Nat):i0r (n+59) []=some (0,6):=by kernel_rfl
theorem k1m (n:Nat):d1c (n+59) [([([97],[])],(3,(1,(0,false)))),([([98],[])],(4,(0,(0,false)))),([([97],[])],(5,(9,(0,false))))]=some [([([97],[])],(3,(1,(0,false)))),([([97],[])],(5,(9,(0,false)))),([([98],[])],(4,(0,(0,false))))]:=by kernel_rfl
theorem k1l (n:Nat):d0k (n+59) (1) [([([97],[])],(3,(1,(0,false)))),([([98],[])],(4,(0,(0,false)))),([([97],[])],(5,(9,(0,false))))]=some [[([([97],[])],(3,(1,(0,false))))],[([([98],[])],(4,(0,(0,false))))],[([([97],[])],(5,(9,(0,false))))]]:=by kernel_rfl
theorem k1k (n:Nat):d0k (n+59) (2) [([([97],[])],(3,(1,(0,false)))),([([98],[])],(4,(0,(0,false)))),([([97],[])],(5,(9,(0,false))))]=some [[([([97],[])],(3,(1,(0,false)))),([([98],[])],(4,(0,(0,false)))),([([97],[])],(5,(9,(0,false))))]]:=by kernel_rfl
theorem k1j (n:Nat):k0w (n+58) ((20,((10,(20,60)),((4,(5,6)),(3,9)))),(0,((-1),[([],(0,((0,(0,[])),(([],([],[])),zS)))),([],(0,((0,(0,[])),(([],([],[])),zS)))),([],(0,((0,(0,[])),(([],([],[])),zS))))]))) [([97],[])] (3,(1,(0,false)))=some (m0y,0):=by kernel_rfl
theorem k1i (n:Nat):k0w (n+58) m0y [([98],[])] (4,(0,(0,false)))=some (g0l,0):=by kernel_rfl
theorem e1m (n:Nat):k0w (n+58) g0l [([97],[])] (3,(1,(0,false)))=some (((0,((0,(0,0)),((0,(0,0)),(0,0)))),(0,(0,[]))),9):=by kernel_rfl
theorem e1l (n:Nat):k0w (n+58) g0l [([97],[])] (5,(9,(0,false)))=some (c0k,0):=by kernel_rfl
theorem e1k (n f:Nat):c0n (n+58) (f+1) (c0k,(((0,((0,(0,0)),((0,(0,0)),(0,0)))),(0,(0,[]))),([0,0,9,0],([([([97],[])],(3,(1,(0,false)))),([([98],[])],(4,(0,(0,false)))),([([97],[])],(3,(1,(0,false)))),([([97],[])],(5,(9,(0,false))))],(4,(4,()))))))=some (.inl (c0k,(((0,((0,(0,0)),((0,(0,0)),(0,0)))),(0,(0,[]))),([0,0,9,0],())))):=by
 rw[c0u];refine tf (by kernel_rfl) ?_
 kernel_rfl
theorem e1j (n f:Nat):c0n (n+58) (f+2) (g0l,(((0,((0,(0,0)),((0,(0,0)),(0,0)))),(0,(0,[]))),([0,0,9,0],([([([97],[])],(3,(1,(0,false)))),([([98],[])],(4,(0,(0,false)))),([([97],[])],(3,(1,(0,false)))),([([97],[])],(5,(9,(0,false))))],(4,(3,()))))))=some (.inl (c0k,(((0,((0,(0,0)),((0,(0,0)),(0,0)))),(0,(0,[]))),([0,0,9,0],())))):=by
 rw[c0u];refine tt (by kernel_rfl) ?_;refine ob (x:=([([97],[])],(5,(9,(0,false))))) (by kernel_rfl) ?_;refine ob (e1l (n+0)) ?_;refine ob (x:=0) (by kernel_rfl) ?_;refine ob (x:=0) (by kernel_rfl) ?_;refine tt (by kernel_rfl) ?_;exact e1k n f
theorem e1i (n f:Nat):c0n (n+58) (f+3) (g0l,(((0,((0,(0,0)),((0,(0,0)),(0,0)))),(0,(0,[]))),([0,0,0,0],([([([97],[])],(3,(1,(0,false)))),([([98],[])],(4,(0,(0,false)))),([([97],[])],(3,(1,(0,false)))),([([97],[])],(5,(9,(0,false))))],(4,(2,()))))))=some (.inl (c0k,(((0,((0,(0,0)),((0,(0,0)),(0,0)))),(0,(0,[]))),([0,0,9,0],())))):=by
 rw[c0u];refine tt (by kernel_rfl) ?_;refine ob (x:=([([97],[])],(3,(1,(0,false))))) (by kernel_rfl) ?_;refine ob (e1m (n+0)) ?_;refine ob (x:=0) (by kernel_rfl) ?_;refine ob (x:=0) (by kernel_rfl) ?_;refine tf (by kernel_rfl) ?_;exact e1j n f
theorem e1h (n f:Nat):c0n (n+58) (f+4) (m0y,(((0,((0,(0,0)),((0,(0,0)),(0,0)))),(0,(0,[]))),([0,0,0,0],([([([97],[])],(3,(1,(0,false)))),([([98],[])],(4,(0,(0,false)))),([([97],[])],(3,(1,(0,false)))),([([97],[])],(5,(9,(0,false))))],(4,(1,()))))))=some (.inl (c0k,(((0,((0,(0,0)),((0,(0,0)),(0,0)))),(0,(0,[]))),([0,0,9,0],())))):=by
 rw[c0u];refine tt (by kernel_rfl) ?_;refine ob (x:=([([98],[])],(4,(0,(0,false))))) (by kernel_rfl) ?_;refine ob (k1i (n+0)) ?_;refine ob (x:=0) (by kernel_rfl) ?_;refine ob (x:=0) (by kernel_rfl) ?_;refine tt (by kernel_rfl) ?_;exact e1i n f
theorem e1g (n f:Nat):c0n (n+58) (f+5) (((20,((10,(20,60)),((4,(5,6)),(3,9)))),(0,((-1),[([],(0,((0,(0,[])),(([],([],[])),zS)))),([],(0,((0,(0,[])),(([],([],[])),zS)))),([],(0,((0,(0,[])),(([],([],[])),zS))))]))),(((0,((0,(0,0)),((0,(0,0)),(0,0)))),(0,(0,[]))),([0,0,0,0],([([([97],[])],(3,(1,(0,false)))),([([98],[])],(4,(0,(0,false)))),([([97],[])],(3,(1,(0,false)))),([([97],[])],(5,(9,(0,false))))],(4,(0,()))))))=some (.inl (c0k,(((0,((0,(0,0)),((0,(0,0)),(0,0)))),(0,(0,[]))),([0,0,9,0],())))):=by
 rw[c0u];refine tt (by kernel_rfl) ?_;refine ob (x:=([([97],[])],(3,(1,(0,false))))) (by kernel_rfl) ?_;refine ob (k1j (n+0)) ?_;refine ob (x:=0) (by kernel_rfl) ?_;refine ob (x:=0) (by kernel_rfl) ?_;refine tt (by kernel_rfl) ?_;exact e1h n f
theorem e1f (n:Nat):i0q (n+59) ((20,((10,(20,60)),((4,(5,6)),(3,9)))),(0,((-1),[([],(0,((0,(0,[])),(([],([],[])),zS)))),([],(0,((0,(0,[])),(([],([],[])),zS)))),([],(0,((0,(0,[])),(([],([],[])),zS))))]))) [([([97],[])],(3,(1,(0,false)))),([([98],[])],(4,(0,(0,false)))),([([97],[])],(3,(1,(0,false)))),([([97],[])],(5,(9,(0,false))))]=some (c0k,[0,0,9,0]):=by
 rw[w0t];refine tt (by kernel_rfl) ?_;refine ob (atFuel (h:=by unfold a0b;omega) (e1g n (a0b-5))) ?_;refine Eq.trans (a0y ..) ?_
 kernel_rfl
theorem e1e (n:Nat):j0b (n+59) [([([97],[])],(3,(1,(0,false)))),([([97],[])],(5,(9,(0,false)))),([([98],[])],(4,(0,(0,false))))] [([([97],[])],(3,(1,(0,false)))),([([97],[])],(5,(9,(0,false)))),([([98],[])],(4,(0,(0,false))))]=some true:=by kernel_rfl
theorem e1d (n:Nat):d0k (n+59) (0) [([([97],[])],(3,(1,(0,false))))]=some []:=by kernel_rfl
theorem e1c (n:Nat):e0x (n+59) (20,((10,(20,60)),((4,(5,6)),(3,9))))=some 1:=by kernel_rfl
theorem e1b (n:Nat):e0x (n+59) (0,((0,(0,0)),((0,(0,0)),(0,0))))=some 0:=by kernel_rfl
theorem e1a (n:Nat):t0h (n+59) [0,0,9,0] [0,0,9,0]=some true:=by kernel_rfl
theorem d1z (n:Nat):u1z (n+59) c0k=some 2:=by kernel_rfl
theorem e1s (n:Nat):c1f (n+60)=some true:=by
 rw[d1y];refine ob (k1r (n+0)) ?_;refine ob (k1q (n+0)) ?_;refine tf (by kernel_rfl) ?_;refine ob (k1p (n+0)) ?_;refine ob (k1o (n+0)) ?_;refine ob (k1n (n+0)) ?_;refine ob (k1m (n+0)) ?_;refine ob (k1l (n+0)) ?_;refine ob (k1k (n+0)) ?_;refine ob (e1f n) ?_;refine tf (by kernel_rfl) ?_;refine tf (by kernel_rfl) ?_;refine tf (by kernel_rfl) ?_;refine tt (by kernel_rfl) ?_;refine tt (by kernel_rfl) ?_;refine tt (by kernel_rfl) ?_;refine tt (by kernel_rfl) ?_;refine tt (by kernel_rfl) ?_
 refine ob (e1e (n+0)) ?_;refine tt (by kernel_rfl) ?_;refine ob (x:=[([([97],[])],(3,(1,(0,false)))),([([98],[])],(4,(0,(0,false)))),([([97],[])],(5,(9,(0,false))))]) (by kernel_rfl) ?_;refine tt (by kernel_rfl) ?_;refine ob (e1d (n+0)) ?_;refine tt (by kernel_rfl) ?_;refine ob (e1c (n+0)) ?_;refine tt (by kernel_rfl) ?_;refine ob (e1b (n+0)) ?_;refine tt (by kernel_rfl) ?_;refine ob (e1a (n+0)) ?_;refine tt (by kernel_rfl) ?_;refine ob (d1z (n+0)) ?_;refine tt (by kernel_rfl) ?_
 refine ob (x:=([([97],[])],(5,((0,(0,[(3,(1,(0,false))),(5,(9,(0,false)))])),(([zS,zS,zS,zS],([zS,zS,zS,zS,zS],[zS,zS,zS,zS,zS,zS])),(0,(2,((3,(1,(0,false))),((5,(9,(0,false))),((0,8),(0,(0,2)))))))))))) (by kernel_rfl) ?_
 kernel_rfl
end Go.Proofs.YtjffajodppnejaaGreatDoor
namespace Go.Proofs.YtjffajodppnejaaGreatDoor
open Go.Flat Go.Plim
set_option linter.unusedVariables false
set_option linter.unusedSimpArgs false
theorem d2i {rows:List c0g} (h:Wf (.slice b0j) rows):(∀x∈rows,x.1.length≤9223372036854775807)∧∀x∈rows,EvW x.2:=by
 refine ⟨fun x hx => ?_,fun x hx => ?_⟩
 ·obtain ⟨h1,_⟩:=h.2 x hx;have:=h1.1
  simpa only [maxLen] using this
 ·obtain ⟨_,h2⟩:=h.2 x hx;exact ev_wf h2
theorem e2s (n:Nat) {c:Conf} (h:OkC c):e0x (n+5) c=some (c.2.2.2.2 / plc c):=by
 rw[m1p,k0t (n+1) c,if_pos h,obs,decide_eq_true rfl,Bool.not_true,tff,q1p n h,obs];have hp:=n0o h.rng;have hl:=h.rng.log;have h1:=Int.ediv_nonneg (show 0≤c.2.2.2.2 by omega) (show 0≤plc c by omega);have h2:=Int.ediv_le_self (plc c) (show 0≤c.2.2.2.2 by omega);rw[decide_eq_false (by omega),tff,Int.tdiv_eq_ediv_of_nonneg (by omega),w64 (by omega) (by omega)]
theorem e2w (n:Nat) (rows:List c0g) (n_:Int) (x:c0g) (s9:List c0g) (s10 s11:Int) {sub:List c0g} (hx:x.1.length≤9223372036854775807) (hL:sub.length≤1000000):∀(rest pre:List c0g) (f:Nat) (i:Int) (b:Bool),sub=pre++rest→i=pre.length→rest.length<f →
  l0i (n+1) f (rows,n_,x,b,s9,s10,s11,sub,(sub.length:Int),i,())=some (.inl (rows,(n_,(b && !decide (x.1∈firsts rest),(s9,(s10,(s11,()))))))):=by
 intro rest;induction rest with
 | nil =>
  intro pre f i b hl hi hf;obtain ⟨f,rfl⟩:∃g,f=g+1:=⟨f-1,by simp at hf;omega⟩;rw[t0i];simp only[tfd,if_neg (idxe hl hi rfl)];rw[show decide (x.1∈firsts ([]:List c0g))=false by simp[firsts],Bool.not_false,Bool.and_true]
 | cons y rest ih =>
  intro pre f i b hl hi hf;obtain ⟨f,rfl⟩:∃g,f=g+1:=⟨f-1,by simp at hf;omega⟩;have hlen:=congrArg List.length hl;simp at hlen;have IH:=fun b=>ih (pre++[y]) f (i+1) b (idxl hl) (idxs hi) (by simp at hf;omega)
  have hm:(x.1∈firsts (y::rest))↔(x.1=y.1∨x.1∈firsts rest):=by
   rw[mem_firsts,mem_firsts];constructor
   ·rintro ⟨z,hz,e⟩;rcases List.mem_cons.1 hz with rfl | hz
    ·exact .inl e.symm
    ·exact .inr ⟨z,hz,e⟩
   ·rintro (e | ⟨z,hz,e⟩)
    ·exact ⟨y,by simp,e.symm⟩
    ·exact ⟨z,by simp[hz],e⟩
  rw[t0i,decide_eq_true (idx hl hi rfl),tft,b0v hl hi,obs,w64 (x:=i+1) (by omega) (by omega)];cases b with
  | false=>rw[tff,IH false,Bool.false_and,Bool.false_and]
  | true =>
   rw[tft,c1n n x.1 y.1 hx,obs,IH];by_cases e:x.1=y.1
   ·rw[decide_eq_true e,decide_eq_true (hm.2 (.inl e))];simp
   ·rw[decide_eq_false e,Bool.not_false];by_cases h:x.1∈firsts rest
    ·rw[decide_eq_true h,decide_eq_true (hm.2 (.inr h))]
    ·rw[decide_eq_false h,decide_eq_false fun k=>(hm.1 k).elim e h]
theorem e2x (n:Nat) {rows:List c0g} (hl9:∀x∈rows,x.1.length≤9223372036854775807) (hL:rows.length≤1000000):∀(rest pre:List c0g) (f:Nat) (i:Int),rows=pre++rest→i=pre.length→rest.length<f →
  i0h (n+1) f (rows,((firsts pre).length:Int),rows,(rows.length:Int),i,())=some (.inl (((firsts rows).length:Int),())):=by
 intro rest;induction rest with
 | nil =>
  intro pre f i hl hi hf;obtain ⟨f,rfl⟩:∃g,f=g+1:=⟨f-1,by simp at hf;omega⟩;rw[t0j];simp only[tfd,if_neg (idxe hl hi rfl)];rw[show pre=rows by rw[hl,List.append_nil]]
 | cons x rest ih =>
  intro pre f i hl hi hf;obtain ⟨f,rfl⟩:∃g,f=g+1:=⟨f-1,by simp at hf;omega⟩;have hlen:=congrArg List.length hl;simp at hlen;have hfp:=firsts_len pre;have IH:=ih (pre++[x]) f (i+1) (idxl hl) (idxs hi) (by simp at hf;omega);rw[firsts_snoc_len] at IH;rw[t0j,decide_eq_true (idx hl hi rfl),tft,b0v hl hi,obs,g0r,if_pos (by simp only[Bool.and_eq_true,decide_eq_true_eq];omega)];subst hi;have hdt:List.drop 0 (List.take (Int.toNat ((pre.length:Nat):Int)) rows)=pre:=by rw[hl];exact l1y _ _
  rw[hdt,e2w n (sub:=pre) rows _ x rows _ _ (hl9 x (by rw[hl];simp)) (by omega) pre [] a0b 0 true rfl rfl (by unfold a0b;omega),obs,a0y];dsimp only;rw[Bool.true_and,w64 (x:=((pre.length:Nat):Int)+1) (by omega) (by omega),w64 (x:=(((firsts pre).length:Nat):Int)+1) (by omega) (by omega)];by_cases h:x.1∈firsts pre
  ·rw[decide_eq_true h,Bool.not_true,tff];rw[if_pos h] at IH;exact IH
  ·rw[decide_eq_false h,Bool.not_false,tft];rw[if_neg h] at IH;exact IH
theorem many56 (n:Nat) {rows:List c0g} (hl9:∀x∈rows,x.1.length≤9223372036854775807) (hL:rows.length≤1000000):a1g (n+2) rows=some ((firsts rows).length:Int):=by
 rw[t1e];have h:=e2x n hl9 hL rows [] a0b 0 rfl rfl (by unfold a0b;omega)
 change a0a (i0h (n+1) a0b (rows,(((firsts ([]:List c0g)).length:Nat):Int),rows,(rows.length:Int),0,())) _=_
 rw[h,obs,a0y]
theorem mid_plus {α:Type} (A p r:List α) (x:α):List.drop (Int.toNat ((A.length:Nat):Int)) (List.take (Int.toNat (((A.length:Nat):Int)+((p.length:Nat):Int)+1)) (A++p++(x::r)))=p++[x]:=by
 have:=e2u A (p++[x]) r;rw[show (((A++(p++[x])).length:Nat):Int)=((A.length:Nat):Int)+((p.length:Nat):Int)+1 by simp;omega,show A++(p++[x])++r=A++p++(x::r) by simp] at this;exact this
theorem mid_just {α:Type} (A p r:List α):List.drop (Int.toNat ((A.length:Nat):Int)) (List.take (Int.toNat (((A.length:Nat):Int)+((p.length:Nat):Int))) (A++p++r))=p:=by
 have:=e2u A p r;rw[show (((A++p).length:Nat):Int)=((A.length:Nat):Int)+((p.length:Nat):Int) by simp] at this;exact this
theorem allB_len {s:Sta} (hs:StaOk s) (h4:s.2.2.2.length≤4):(allB s).length≤10000000:=by
 have hsx:∀x∈s.2.2.2,(l0g s.1 x).length=(plc s.1).toNat:=fun x hx=>by
  obtain ⟨i,hi⟩:=List.mem_iff_getElem?.1 hx;exact (t0z hs.whole.1.rng (v0t (hs.right i x hi))).2
 have hp:=n0o hs.whole.1.rng;unfold allB;rw[List.length_cons,h1q (m:=(plc s.1).toNat) _ hsx];have:s.2.2.2.length*(plc s.1).toNat≤4*20000:=Nat.mul_le_mul h4 (by omega);omega
theorem d2w (n:Nat) {N:Int} (hN:1≤N) {rows:List c0g} (hw:∀x∈rows,EvW x.2) (hl9:∀x∈rows,x.1.length≤9223372036854775807) (hL:rows.length≤1000) {P:List (List c0g)} (hP:P.length≤1000000):∀(rest pre:List (List c0g)) (f:Nat) (i:Int) (s:Sta),P=pre++rest→i=pre.length→rest.length<f→rows=pre.flatten++rest.flatten→Parts N.toNat rest→StaW s→StaOk s→s.2.2.2.length≤4 →
  b0e (n+60) f (rows,N,s,((pre.flatten.length:Nat):Int),P,(P.length:Int),i,())=some (.inl (rows,((rows.length:Int),()))):=by
 intro rest;induction rest with
 | nil =>
  intro pre f i s hl hi hf hr hp hsw hs h4;obtain ⟨f,rfl⟩:∃g,f=g+1:=⟨f-1,by simp at hf;omega⟩;rw[j0f,decide_eq_false (idxe hl hi rfl),tff];rw[show pre.flatten=rows by rw[hr];simp]
 | cons p rest ih =>
  intro pre f i s hl hi hf hr hp hsw hs h4;obtain ⟨f,rfl⟩:∃g,f=g+1:=⟨f-1,by simp at hf;omega⟩;obtain ⟨p0,p1,p2,p3⟩:=hp;have hlen:=congrArg List.length hl;simp only[List.length_append,List.length_cons] at hlen;have hpl:=List.length_pos_iff.2 p0;have hr':rows=pre.flatten++p++rest.flatten:=by rw[hr,List.flatten_cons,List.append_assoc]
  have hrl:rows.length=pre.flatten.length+p.length+rest.flatten.length:=by rw[hr',List.length_append,List.length_append]
  have hpm:∀y∈p,y∈rows:=fun y hy=>by rw[hr'];simp only[List.mem_append];exact .inl (.inr hy)
  have hpw:∀y∈p,EvW y.2:=fun y hy=>hw y (hpm y hy)
  have hc:=stE_chgd hs p;have hcw:=stE_w p hsw;have h4':(stE s p).2.2.2.length≤4:=by rw[hc.len];exact h4
  have hat:((pre.flatten.length:Nat):Int)+((p.length:Nat):Int)=(((pre++[p]).flatten.length:Nat):Int):=by simp
  have IH:=ih (pre++[p]) f (i+1) (stE s p) (idxl hl) (idxs hi) (by simp at hf;omega) (by rw[hr'];simp) p3 hcw hc.ok h4';have hd:=h2y hs hc;have tail:(a0a (j0i (n+60) s) fun r9 =>
    a0a (i0q (n+60) s p) fun r10 =>
    a0a (j0i (n+60) r10.1) fun r11 =>
    tif ((!(decide (r9.2=(0:Int))))) (some (.inr false)) (
    tif ((!(decide (r11.2=(0:Int))))) (some (.inr false)) (
    a0a (e0x (n+60) r10.1.1) fun r12 =>
    tif ((decide (N≤r12))) (
    a0a (n0z (n+60) r9.1 r11.1 (0:Int)) fun r13 =>
    tif ((decide (r10.1.1.2.2.2.2<(((List.length r13):Nat):Int)))) (some (.inr false)) (
    b0e (n+60) f (rows,(N,(r10.1,((IntKind.wrap .i64 (((pre.flatten.length:Nat):Int)+(((List.length p):Nat):Int))),(P,(((P.length:Nat):Int),((IntKind.wrap .i64 (i+(1:Int))),()))))))))) (
    b0e (n+60) f (rows,(N,(r10.1,((IntKind.wrap .i64 (((pre.flatten.length:Nat):Int)+(((List.length p):Nat):Int))),(P,(((P.length:Nat):Int),((IntKind.wrap .i64 (i+(1:Int))),())))))))))))=some (.inl (rows,((rows.length:Int),()))):=by
   rw[i2t (n+44) hsw,if_pos hs,obs,b2i (n+35) hsw hpw (by omega),obs];dsimp only;rw[i2t (n+44) hcw,if_pos hc.ok,obs,decide_eq_true rfl,Bool.not_true,tff,tff];dsimp only;rw[hc.c,e2s (n+55) hs.whole.1,obs,
    w64 (x:=((pre.flatten.length:Nat):Int)+((p.length:Nat):Int)) (by omega) (by omega),hat,w64 (x:=i+1) (by omega) (by omega),IH,tfd]
   by_cases hm:N≤s.1.2.2.2.2 / plc s.1
   case neg=>rw[if_neg hm]
   have hle:=allB_len hc.ok h4';rw[if_pos hm,diff_val (n+59) (allB s) (allB (stE s p)) 0 (by decide) (by decide) hle,obs,decide_eq_false,tff];have hpr:=n0o hs.whole.1.rng;have k1:(((i0l (allB s) 0 0 (allB (stE s p))).length:Nat):Int)≤(((firsts p).length*(plc s.1).toNat:Nat):Int):=by exact_mod_cast hd
   rw[Int.natCast_mul] at k1;have k2:(((firsts p).length:Nat):Int)≤s.1.2.2.2.2 / plc s.1:=by omega
   have k3:=Int.mul_le_mul_of_nonneg_right k2 (show 0≤(((plc s.1).toNat:Nat):Int) by omega);have k4:(((plc s.1).toNat:Nat):Int)=plc s.1:=by omega
   rw[k4] at k1 k3;have k5:=Int.ediv_mul_le s.1.2.2.2.2 (show plc s.1≠0 by omega);omega
  rw[j0f,decide_eq_true (idx hl hi rfl),tft,b0v hl hi,obs,decide_eq_false (show ¬((p.length:Nat):Int)=0 by omega),tff,
   w64 (x:=((rows.length:Nat):Int)-((pre.flatten.length:Nat):Int)) (by omega) (by omega),decide_eq_false (by omega),tff,decide_eq_true (by omega),tft]
  have e1:IntKind.wrap .i64 (((pre.flatten.length:Nat):Int)+((p.length:Nat):Int))=((pre.flatten.length:Nat):Int)+((p.length:Nat):Int):=w64 (by omega) (by omega);rw[g0r,if_pos (by rw[e1];simp only[Bool.and_eq_true,decide_eq_true_eq];omega)];have hsl:List.drop (Int.toNat ((pre.flatten.length:Nat):Int)) (List.take (Int.toNat (IntKind.wrap .i64 (((pre.flatten.length:Nat):Int)+((p.length:Nat):Int)))) rows)=p:=by rw[e1,hr'];exact mid_just _ _ _
  rw[hsl,same36 (n+57) (l:=p) (by omega) (fun r h=>hl9 r (hpm r h)),obs,Bool.not_true,tff,many56 (n+58) (rows:=p) (fun r h=>hl9 r (hpm r h)) (by omega),obs,decide_eq_false (by omega),tff];by_cases hlast:IntKind.wrap .i64 (((pre.flatten.length:Nat):Int)+((p.length:Nat):Int))<((rows.length:Nat):Int)
  ·rw[decide_eq_true hlast,tft];rw[e1] at hlast;have e2:IntKind.wrap .i64 (IntKind.wrap .i64 (((pre.flatten.length:Nat):Int)+((p.length:Nat):Int))-((p.length:Nat):Int))=((pre.flatten.length:Nat):Int):=by
    rw[e1,show ((pre.flatten.length:Nat):Int)+((p.length:Nat):Int)-((p.length:Nat):Int)=((pre.flatten.length:Nat):Int) by omega];exact w64 (by omega) (by omega)
   have e3:IntKind.wrap .i64 (IntKind.wrap .i64 (((pre.flatten.length:Nat):Int)+((p.length:Nat):Int))+1)=((pre.flatten.length:Nat):Int)+((p.length:Nat):Int)+1:=by
    rw[e1];exact w64 (by omega) (by omega)
   rw[e2,e3,decide_eq_true (by omega),tft,g0r,if_pos (by simp only[Bool.and_eq_true,decide_eq_true_eq];omega)];cases hre:rest.flatten with
   | nil=>exfalso;rw[hre,List.length_nil,Nat.add_zero] at hrl;omega
   | cons x r =>
    have hsl2:List.drop (Int.toNat ((pre.flatten.length:Nat):Int)) (List.take (Int.toNat (((pre.flatten.length:Nat):Int)+((p.length:Nat):Int)+1)) rows)=p++[x]:=by
     rw[hr',hre];exact mid_plus _ _ _ _
    have hx:=p2 x r hre;rw[hsl2,many56 (n+58) (rows:=p++[x]) (fun y hy=>by
     rcases List.mem_append.1 hy with hy | hy
     ·exact hl9 y (hpm y hy)
     ·simp at hy;subst hy
      exact hl9 y (by rw[hr',hre];simp)) (by simp;omega),obs,decide_eq_false (by omega),tff]
    exact tail
  ·rw[decide_eq_false hlast,tff];exact tail
theorem g2i (N:Nat):∀(P:List (List c0g)),Parts N P→P.length≤P.flatten.length:=by
 intro P;induction P with
 | nil=>intro _;simp
 | cons p P ih =>
  intro h;have:=List.length_pos_iff.2 h.1;have:=ih h.2.2.2;simp only[List.length_cons,List.flatten_cons,List.length_append];omega
theorem d1d (n:Nat) (s:Sta) (rows:List c0g) (m:Int) (hs:Wf b0b s) (hr:Wf (.slice b0j) rows):t0k (n+61) s rows m=some true:=by
 obtain ⟨hl9,hw⟩:=d2i hr;have hsw:=sta_wf hs;rw[x0y,e1s n,obs,Bool.not_true,tff];rcases f2j (n+57) hsw with h0 | ⟨h0,_⟩
 ·rw[h0];rfl
 rw[h0,obs,decide_eq_false (by decide),tff];rcases small36 (n+58) hl9 with h | ⟨h,h40,hsh⟩
 ·rw[h];rfl
 rw[h,obs,decide_eq_false (by decide),tff,v0c (n+46) hsw,obs];by_cases hok:StaOk s
 case neg=>rw[if_neg hok];rfl
 rw[if_pos hok,decide_eq_true rfl,Bool.not_true,tff,tfd];by_cases c1:(4:Int)<((s.2.2.2.length:Nat):Int)
 ·rw[if_pos c1]
 rw[if_neg c1,tfd];by_cases c2:(40:Int)<s.1.2.2.1.1
 ·rw[if_pos c2]
 rw[if_neg c2,tfd];by_cases c3:(40:Int)<s.1.2.2.1.2.1
 ·rw[if_pos c3]
 rw[if_neg c3,tfd];by_cases c4:(40:Int)<s.1.2.2.1.2.2
 ·rw[if_pos c4]
 rw[if_neg c4,tfd];by_cases c5:(64:Int)<s.1.1
 ·rw[if_pos c5]
 rw[if_neg c5,tfd];have loop:∀N:Int,1≤N→(a0a (d0k (n+60) N rows) fun r5 =>
   a0a (b0e (n+60) a0b (rows,(N,(s,((0:Int),(r5,((((List.length r5):Nat):Int),((0:Int),())))))))) fun r6 =>
   b0z (fun y7=>some (decide (y7.2.1=(((List.length y7.1):Nat):Int)))) (fun z8=>some z8) r6)=some true:=by
  intro N hN;obtain ⟨hp,hfl⟩:=n1r hN rows;have hle:=g2i _ _ hp;rw[hfl] at hle;rw[u1l (n+52) N hsh (by omega),obs];have:=d2w n hN hw hl9 (by omega) (P:=splitN N rows) (by omega) (splitN N rows) [] a0b 0 s rfl rfl (by unfold a0b;omega) (by rw[hfl];rfl) hp hsw hok (by omega)
  change a0a (b0e (n+60) a0b (rows,N,s,(((([]:List (List c0g)).flatten.length:Nat)):Int),splitN N rows,((splitN N rows).length:Int),0,())) _=_
  rw[this,obs,a0y];dsimp only;rw[decide_eq_true rfl]
 by_cases hm:m<1
 ·have hp:=n0o hok.whole.1.rng;have hpl:=hok.whole.1.pl;have h1:1≤s.1.2.2.2.2 / plc s.1:=by rw[Int.le_ediv_iff_mul_le (by omega)];omega
  rw[if_pos hm,e2s (n+55) hok.whole.1,obs,decide_eq_false (by omega),tff];exact loop _ h1
 ·rw[if_neg hm,decide_eq_false hm,tff];exact loop m (by omega)
end Go.Proofs.YtjffajodppnejaaGreatDoor
