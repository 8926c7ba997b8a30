/-
 Plain proofs about the functions of this seat, part 3 of 4.
-/
import Derived.Test.YteopnkdnglpbfaaGreatDoorQ2
import Derived.Test.YteopnkdnglpbfaaGreatDoorTr
import Derived.Test.YteopnkdnglpbfaaGreatDoorFlatM4
open Go.IntKind (wrap)
namespace Go.Proofs.YteopnkdnglpbfaaGreatDoor
open Go.Flat Go.Plim
set_option linter.unusedVariables false
set_option linter.unusedSimpArgs false
theorem d2a (n f:Nat) (s:Trs):e0b n (f+1) (s,(3:Int),())=some (.inl ()):=by
 rw[i0c,show (decide ((3:Int)<3))=false from rfl,tff]
theorem d2b (n f:Nat) (s:Trs):e0b n (f+2) (s,(2:Int),())=some (if (40:Int)<s.2.2.length then .inr 0 else .inl ()):=by
 rw[i0c,show (decide ((2:Int)<3))=true from rfl,tft,show (decide ((2:Int)=0))=false from rfl,tff,show (decide ((2:Int)=1))=false from rfl,tff,show (decide ((2:Int)=2))=true from rfl,tft];rw[show wrap .i64 ((2:Int)+1)=3 from rfl,d2a];simp only[tfd];split<;>rfl
theorem d2c (n f:Nat) (s:Trs):e0b n (f+3) (s,(1:Int),())=some (if (40:Int)<s.2.1.length\/(40:Int)<s.2.2.length then .inr 0 else .inl ()):=by
 rw[i0c,show (decide ((1:Int)<3))=true from rfl,tft,show (decide ((1:Int)=0))=false from rfl,tff,show (decide ((1:Int)=1))=true from rfl,tft];rw[show wrap .i64 ((1:Int)+1)=2 from rfl,d2b];simp only[tfd];by_cases h:(40:Int)<s.2.1.length
 ·rw[q0z h,q0z (.inl h)]
 ·rw[q0n h];by_cases h':(40:Int)<s.2.2.length
  ·rw[q0z h',q0z (.inr h')]
  ·rw[q0n h',q0n (fun k=>k.elim h h')]
theorem d2d (n f:Nat) (s:Trs):e0b n (f+4) (s,(0:Int),())=some (if (40:Int)<s.1.length\/(40:Int)<s.2.1.length\/(40:Int)<s.2.2.length then .inr 0 else .inl ()):=by
 rw[i0c,show (decide ((0:Int)<3))=true from rfl,tft,show (decide ((0:Int)=0))=true from rfl,tft];rw[show wrap .i64 ((0:Int)+1)=1 from rfl,d2c];simp only[tfd];by_cases h:(40:Int)<s.1.length
 ·rw[q0z h,q0z (.inl h)]
 ·rw[q0n h];by_cases h':(40:Int)<s.2.1.length\/(40:Int)<s.2.2.length
  ·rw[q0z h',q0z (.inr h')]
  ·rw[q0n h',q0n (fun k=>k.elim h h')]
def a1l (s:Trs):Prop:=s.1.length<=40/\s.2.1.length<=40/\s.2.2.length<=40
instance (s:Trs):Decidable (a1l s):=by unfold a1l;infer_instance
theorem j2q (n:Nat) (s:Trs):e1p (n+1) s=some (if a1l s then 1 else 0):=by
 rw[u1k,show a0b=(2^70-4)+4 from by decide,d2d];by_cases h:a1l s
 ·rw[q0z h,q0n (by unfold a1l at h;omega)];rfl
 ·rw[q0n h,q0z (by unfold a1l at h;omega)];rfl
theorem r05_same_l (n:Nat) (l:List Lab) (hL:l.length<=1000000):∀(rest pre:List Lab) (f:Nat) (ix len:Int),l=pre++rest->ix=pre.length->len=l.length->rest.length<f->l0v n f (l,l,len,ix,())=some (.inl ()):=by
 intro rest;induction rest with
 | nil =>
  intro pre f ix len hl hi hn hf;obtain ⟨f,rfl⟩:∃g,f=g+1:=⟨f-1,by simp at hf;omega⟩;rw[j0a];simp only[tfd,q0n (idxe hl hi hn)]
 | cons x rest ih =>
  intro pre f ix len hl hi hn hf;obtain ⟨f,rfl⟩:∃g,f=g+1:=⟨f-1,by simp at hf;omega⟩;rw[j0a];simp only[tfd,q0z (idx hl hi hn),c0e hl hi,obs,labEq,decide_true,q2s,tff,idxw hl hi (by omega)];exact ih (pre++[x]) f (ix+1) len (idxl hl) (idxs hi) hn (by simp at hf;omega)
structure SerL (s:Ser):Prop where
 l:s.1.length<=1000000
 r:s.2.2.1.2.2.length<=1000000
 a:s.2.2.2.1.1.length<=1000000
 b:s.2.2.2.1.2.1.length<=1000000
 d:s.2.2.2.1.2.2.length<=1000000
theorem r1r (n:Nat) (c:Conf) {s:Ser} (hw:SerW s):r0d (n+11) c s=some (if SerOk c s then 0 else 2):=by
 rw[d1j,h0q n c hw];by_cases h:SerOk c s
 ·rw[q0z h,q0z h];rfl
 ·rw[q0n h,q0n h];rfl
theorem h2g (n:Nat) (l:List Lab) (hL:l.length<=9223372036854775807):∀(rest pre:List Lab) (f:Nat) (ix len:Int),l=pre++rest->ix=pre.length->len=l.length->rest.length<f ->
  j0q n f (l,len,ix,())=some (.inl ())\/j0q n f (l,len,ix,())=some (.inr 0):=by
 intro rest;induction rest with
 | nil =>
  intro pre f ix len hl hi hn hf;obtain ⟨f,rfl⟩:∃g,f=g+1:=⟨f-1,by simp at hf;omega⟩;left;rw[s0m];simp only[tfd,q0n (idxe hl hi hn)]
 | cons x rest ih =>
  intro pre f ix len hl hi hn hf;obtain ⟨f,rfl⟩:∃g,f=g+1:=⟨f-1,by simp at hf;omega⟩;have hlen:=congrArg List.length hl;simp at hlen;rw[s0m];simp only[tfd,q0z (idx hl hi hn),c0e hl hi,obs];rw[w64 (x:=ix+1) (by omega) (by omega)];by_cases h1:ix=40
  ·right;rw[q0z h1]
  rw[q0n h1];by_cases h2:(1000:Int)<x.1.length
  ·right;rw[q0z h2]
  rw[q0n h2];by_cases h3:(1000:Int)<x.2.length
  ·right;rw[q0z h3]
  rw[q0n h3];exact ih (pre++[x]) f (ix+1) len (idxl hl) (idxs hi) hn (by simp at hf;omega)
theorem u1l (n:Nat) (l:List Lab) (hL:l.length<=9223372036854775807):s0n (n+1) l=some 0\/s0n (n+1) l=some 1:=by
 rw[u1m];rcases h2g n l hL l [] a0b 0 _ rfl rfl rfl (by unfold a0b;omega) with h | h
 ·right;rw[h];rfl
 ·left;rw[h];rfl
theorem j2p (n:Nat) (s:Ser) (hL:s.1.length<=9223372036854775807):y0e (n+2) s=some 0\/y0e (n+2) s=some 1:=by
 rw[u1j];rcases u1l n s.1 hL with h | h
 ·left;rw[h];rfl
 ·rw[h];simp only[obs,tfd,q0n (show ¬((1:Int)=0) by omega)];by_cases h1:(60:Int)<s.2.2.1.2.2.length
  ·left;rw[q0z h1]
  rw[q0n h1,j2q];simp only[obs];split
  ·right;rfl
  ·left;rfl
theorem ser_wf {s:Ser} (h:Wf a0x s):SerW s:=by
 obtain ⟨h1,h2,h3,h4,h5⟩:=h;refine ⟨h2,?_,trs_wf h4,slo_wf h5⟩;intro e he;exact ev_wf (h3.2.2.2 e he)
theorem v0j (n:Nat) (a b:List Lab) (hL:a.length<=9223372036854775807):∀(ra rb pa pb:List Lab) (f:Nat) (ix len:Int),a=pa++ra->b=pb++rb->pa.length=pb.length->ra.length=rb.length->ix=pa.length->len=a.length->ra.length<f ->
  f0z n f (a,b,len,ix,())=some (if ra=rb then .inl () else .inr false):=by
 intro ra;induction ra with
 | nil =>
  intro rb pa pb f ix len ha hb hp hr hi hn hf;obtain ⟨f,rfl⟩:∃g,f=g+1:=⟨f-1,by simp at hf;omega⟩;have e:rb=[]:=List.length_eq_zero_iff.1 (by simpa using hr.symm);subst e;rw[j0z,q1z (idxe ha hi hn),tff,q0z rfl]
 | cons x ra ih =>
  intro rb pa pb f ix len ha hb hp hr hi hn hf;obtain ⟨f,rfl⟩:∃g,f=g+1:=⟨f-1,by simp at hf;omega⟩;cases rb with
  | nil=>simp at hr
  | cons y rb =>
   have hlen:=congrArg List.length ha;simp at hlen;rw[j0z,q2a (idx ha hi hn),tft,c0e ha hi,c0e hb (by omega)];simp only[obs,labEq];rw[w64 (x:=ix+1) (by omega) (by omega)];by_cases h:x=y
   ·subst h;simp only[decide_true,q2s,tff];rw[ih rb (pa++[x]) (pb++[x]) f (ix+1) len (idxl ha) (idxl hb) (by simp;omega) (by simpa using hr) (idxs hi) hn (by simp at hf;omega)];simp
   ·rw[q0n (by simp[h])];simp only[q1z h,q3c,tft]
theorem o0r (n:Nat) (a b:List Lab) (hL:a.length<=9223372036854775807):m0y (n+1) a b=some (decide (a=b)):=by
 rw[y0z];by_cases h:a.length=b.length
 ·rw[q2a (show ((a.length:Nat):Int)=(b.length:Nat) by omega)];simp only[q2s,tff];rw[v0j n a b hL a b [] [] a0b 0 _ rfl rfl rfl h rfl rfl (by unfold a0b;omega)];by_cases h':a=b
  ·rw[q0z h',q2a h'];rfl
  ·rw[q0n h',q1z h'];rfl
 ·rw[q1z (show ¬((a.length:Nat):Int)=(b.length:Nat) by omega),q1z (fun k:a=b=>h (by rw[k]))];rfl
theorem v0k (n:Nat) (a b:List Ev) (hL:a.length<=9223372036854775807):∀(ra rb pa pb:List Ev) (f:Nat) (ix len:Int),a=pa++ra->b=pb++rb->pa.length=pb.length->ra.length=rb.length->ix=pa.length->len=a.length->ra.length<f ->
  g0a n f (a,b,len,ix,())=some (if ra=rb then .inl () else .inr false):=by
 intro ra;induction ra with
 | nil =>
  intro rb pa pb f ix len ha hb hp hr hi hn hf;obtain ⟨f,rfl⟩:∃g,f=g+1:=⟨f-1,by simp at hf;omega⟩;have e:rb=[]:=List.length_eq_zero_iff.1 (by simpa using hr.symm);subst e;rw[k0a,q1z (idxe ha hi hn),tff,q0z rfl]
 | cons x ra ih =>
  intro rb pa pb f ix len ha hb hp hr hi hn hf;obtain ⟨f,rfl⟩:∃g,f=g+1:=⟨f-1,by simp at hf;omega⟩;cases rb with
  | nil=>simp at hr
  | cons y rb =>
   have hlen:=congrArg List.length ha;simp at hlen;rw[k0a,q2a (idx ha hi hn),tft,c0e ha hi,c0e hb (by omega)];simp only[obs,evEq];rw[w64 (x:=ix+1) (by omega) (by omega)];by_cases h:x=y
   ·subst h;simp only[decide_true,q2s,tff];rw[ih rb (pa++[x]) (pb++[x]) f (ix+1) len (idxl ha) (idxl hb) (by simp;omega) (by simpa using hr) (idxs hi) hn (by simp at hf;omega)];simp
   ·rw[q0n (by simp[h])];simp only[q1z h,q3c,tft]
theorem a1a (n:Nat) (a b:List Ev) (hL:a.length<=9223372036854775807):m0z (n+1) a b=some (decide (a=b)):=by
 rw[z0a];by_cases h:a.length=b.length
 ·rw[q2a (show ((a.length:Nat):Int)=(b.length:Nat) by omega)];simp only[q2s,tff];rw[v0k n a b hL a b [] [] a0b 0 _ rfl rfl rfl h rfl rfl (by unfold a0b;omega)];by_cases h':a=b
  ·rw[q0z h',q2a h'];rfl
  ·rw[q0n h',q1z h'];rfl
 ·rw[q1z (show ¬((a.length:Nat):Int)=(b.length:Nat) by omega),q1z (fun k:a=b=>h (by rw[k]))];rfl
theorem y0h (n:Nat) (a b:List Slo) (hL:a.length<=9223372036854775807):∀(ra rb pa pb:List Slo) (f:Nat) (ix len:Int),a=pa++ra->b=pb++rb->pa.length=pb.length->ra.length=rb.length->ix=pa.length->len=a.length->ra.length<f ->
  g0p n f (a,b,len,ix,())=some (if ra=rb then .inl () else .inr false):=by
 intro ra;induction ra with
 | nil =>
  intro rb pa pb f ix len ha hb hp hr hi hn hf;obtain ⟨f,rfl⟩:∃g,f=g+1:=⟨f-1,by simp at hf;omega⟩;have e:rb=[]:=List.length_eq_zero_iff.1 (by simpa using hr.symm);subst e;rw[l0l,q1z (idxe ha hi hn),tff,q0z rfl]
 | cons x ra ih =>
  intro rb pa pb f ix len ha hb hp hr hi hn hf;obtain ⟨f,rfl⟩:∃g,f=g+1:=⟨f-1,by simp at hf;omega⟩;cases rb with
  | nil=>simp at hr
  | cons y rb =>
   have hlen:=congrArg List.length ha;simp at hlen;rw[l0l,q2a (idx ha hi hn),tft,c0e ha hi,c0e hb (by omega)];simp only[obs,h2h];rw[w64 (x:=ix+1) (by omega) (by omega)];by_cases h:x=y
   ·subst h;simp only[decide_true,q2s,tff];rw[ih rb (pa++[x]) (pb++[x]) f (ix+1) len (idxl ha) (idxl hb) (by simp;omega) (by simpa using hr) (idxs hi) hn (by simp at hf;omega)];simp
   ·rw[q0n (by simp[h])];simp only[q1z h,q3c,tft]
theorem j0t (n:Nat) (a b:List Slo) (hL:a.length<=9223372036854775807):h0o (n+1) a b=some (decide (a=b)):=by
 rw[b1p];by_cases h:a.length=b.length
 ·rw[q2a (show ((a.length:Nat):Int)=(b.length:Nat) by omega)];simp only[q2s,tff];rw[y0h n a b hL a b [] [] a0b 0 _ rfl rfl rfl h rfl rfl (by unfold a0b;omega)];by_cases h':a=b
  ·rw[q0z h',q2a h'];rfl
  ·rw[q0n h',q1z h'];rfl
 ·rw[q1z (show ¬((a.length:Nat):Int)=(b.length:Nat) by omega),q1z (fun k:a=b=>h (by rw[k]))];rfl
theorem p1q (n:Nat) (a b:List Lab) (hL:a.length<=9223372036854775807):∀(ra rb pa pb:List Lab) (f:Nat) (ix len:Int),a=pa++ra->b=pb++rb->pa.length=pb.length->ra.length=rb.length->ix=pa.length->len=a.length->ra.length<f ->
  l0v n f (a,b,len,ix,())=some (if ra=rb then .inl () else .inr false):=by
 intro ra;induction ra with
 | nil =>
  intro rb pa pb f ix len ha hb hp hr hi hn hf;obtain ⟨f,rfl⟩:∃g,f=g+1:=⟨f-1,by simp at hf;omega⟩;have e:rb=[]:=List.length_eq_zero_iff.1 (by simpa using hr.symm);subst e;rw[j0a,q1z (idxe ha hi hn),tff,q0z rfl]
 | cons x ra ih =>
  intro rb pa pb f ix len ha hb hp hr hi hn hf;obtain ⟨f,rfl⟩:∃g,f=g+1:=⟨f-1,by simp at hf;omega⟩;cases rb with
  | nil=>simp at hr
  | cons y rb =>
   have hlen:=congrArg List.length ha;simp at hlen;rw[j0a,q2a (idx ha hi hn),tft,c0e ha hi,c0e hb (by omega)];simp only[obs,labEq];rw[w64 (x:=ix+1) (by omega) (by omega)];by_cases h:x=y
   ·subst h;simp only[decide_true,q2s,tff];rw[ih rb (pa++[x]) (pb++[x]) f (ix+1) len (idxl ha) (idxl hb) (by simp;omega) (by simpa using hr) (idxs hi) hn (by simp at hf;omega)];simp
   ·rw[q0n (by simp[h])];simp only[q1z h,q3c,tft]
theorem v0m (n:Nat) (a b:List Lab) (hL:a.length<=9223372036854775807):x0g (n+1) a b=some (decide (a=b)):=by
 rw[y1g];by_cases h:a.length=b.length
 ·rw[q2a (show ((a.length:Nat):Int)=(b.length:Nat) by omega)];simp only[q2s,tff];rw[p1q n a b hL a b [] [] a0b 0 _ rfl rfl rfl h rfl rfl (by unfold a0b;omega)];by_cases h':a=b
  ·rw[q0z h',q2a h'];rfl
  ·rw[q0n h',q1z h'];rfl
 ·rw[q1z (show ¬((a.length:Nat):Int)=(b.length:Nat) by omega),q1z (fun k:a=b=>h (by rw[k]))];rfl
theorem a1b (n:Nat) (a b:List Ev) (hL:a.length<=9223372036854775807):∀(ra rb pa pb:List Ev) (f:Nat) (ix len:Int),a=pa++ra->b=pb++rb->pa.length=pb.length->ra.length=rb.length->ix=pa.length->len=a.length->ra.length<f ->
  h0v n f (a,b,len,ix,())=some (if ra=rb then .inl () else .inr false):=by
 intro ra;induction ra with
 | nil =>
  intro rb pa pb f ix len ha hb hp hr hi hn hf;obtain ⟨f,rfl⟩:∃g,f=g+1:=⟨f-1,by simp at hf;omega⟩;have e:rb=[]:=List.length_eq_zero_iff.1 (by simpa using hr.symm);subst e;rw[m0m,q1z (idxe ha hi hn),tff,q0z rfl]
 | cons x ra ih =>
  intro rb pa pb f ix len ha hb hp hr hi hn hf;obtain ⟨f,rfl⟩:∃g,f=g+1:=⟨f-1,by simp at hf;omega⟩;cases rb with
  | nil=>simp at hr
  | cons y rb =>
   have hlen:=congrArg List.length ha;simp at hlen;rw[m0m,q2a (idx ha hi hn),tft,c0e ha hi,c0e hb (by omega)];simp only[obs,evEq];rw[w64 (x:=ix+1) (by omega) (by omega)];by_cases h:x=y
   ·subst h;simp only[decide_true,q2s,tff];rw[ih rb (pa++[x]) (pb++[x]) f (ix+1) len (idxl ha) (idxl hb) (by simp;omega) (by simpa using hr) (idxs hi) hn (by simp at hf;omega)];simp
   ·rw[q0n (by simp[h])];simp only[q1z h,q3c,tft]
theorem e1x (n:Nat) (a b:List Ev) (hL:a.length<=9223372036854775807):r0t (n+1) a b=some (decide (a=b)):=by
 rw[d1t];by_cases h:a.length=b.length
 ·rw[q2a (show ((a.length:Nat):Int)=(b.length:Nat) by omega)];simp only[q2s,tff];rw[a1b n a b hL a b [] [] a0b 0 _ rfl rfl rfl h rfl rfl (by unfold a0b;omega)];by_cases h':a=b
  ·rw[q0z h',q2a h'];rfl
  ·rw[q0n h',q1z h'];rfl
 ·rw[q1z (show ¬((a.length:Nat):Int)=(b.length:Nat) by omega),q1z (fun k:a=b=>h (by rw[k]))];rfl
theorem p1p (n:Nat) (a b:List Slo) (hL:a.length<=9223372036854775807):∀(ra rb pa pb:List Slo) (f:Nat) (ix len:Int),a=pa++ra->b=pb++rb->pa.length=pb.length->ra.length=rb.length->ix=pa.length->len=a.length->ra.length<f ->
  p0t n f (a,b,len,ix,())=some (if ra=rb then .inl () else .inr false):=by
 intro ra;induction ra with
 | nil =>
  intro rb pa pb f ix len ha hb hp hr hi hn hf;obtain ⟨f,rfl⟩:∃g,f=g+1:=⟨f-1,by simp at hf;omega⟩;have e:rb=[]:=List.length_eq_zero_iff.1 (by simpa using hr.symm);subst e;rw[u0e,q1z (idxe ha hi hn),tff,q0z rfl]
 | cons x ra ih =>
  intro rb pa pb f ix len ha hb hp hr hi hn hf;obtain ⟨f,rfl⟩:∃g,f=g+1:=⟨f-1,by simp at hf;omega⟩;cases rb with
  | nil=>simp at hr
  | cons y rb =>
   have hlen:=congrArg List.length ha;simp at hlen;rw[u0e,q2a (idx ha hi hn),tft,c0e ha hi,c0e hb (by omega)];simp only[obs,h2h];rw[w64 (x:=ix+1) (by omega) (by omega)];by_cases h:x=y
   ·subst h;simp only[decide_true,q2s,tff];rw[ih rb (pa++[x]) (pb++[x]) f (ix+1) len (idxl ha) (idxl hb) (by simp;omega) (by simpa using hr) (idxs hi) hn (by simp at hf;omega)];simp
   ·rw[q0n (by simp[h])];simp only[q1z h,q3c,tft]
theorem v0l (n:Nat) (a b:List Slo) (hL:a.length<=9223372036854775807):w0y (n+1) a b=some (decide (a=b)):=by
 rw[x1p];by_cases h:a.length=b.length
 ·rw[q2a (show ((a.length:Nat):Int)=(b.length:Nat) by omega)];simp only[q2s,tff];rw[p1p n a b hL a b [] [] a0b 0 _ rfl rfl rfl h rfl rfl (by unfold a0b;omega)];by_cases h':a=b
  ·rw[q0z h',q2a h'];rfl
  ·rw[q0n h',q1z h'];rfl
 ·rw[q1z (show ¬((a.length:Nat):Int)=(b.length:Nat) by omega),q1z (fun k:a=b=>h (by rw[k]))];rfl
noncomputable instance decSer (a b:Ser):Decidable (a=b):=Classical.propDecidable _
structure SerM (s:Ser):Prop where
 l:s.1.length<=9223372036854775807
 r:s.2.2.1.2.2.length<=9223372036854775807
 a:s.2.2.2.1.1.length<=9223372036854775807
 b:s.2.2.2.1.2.1.length<=9223372036854775807
 d:s.2.2.2.1.2.2.length<=9223372036854775807
theorem w1r (n:Nat) (a b:Ser) (h:SerM a):l0n (n+3) a b=some (decide (a=b)):=by
 rw[f1r,y0c,w1y,o0r n _ _ h.l,a1a n _ _ h.r,j0t (n+1) _ _ h.a,j0t (n+1) _ _ h.b,j0t (n+1) _ _ h.d];obtain ⟨a1,a2,⟨r1,r2,r3⟩,⟨t1,t2,t3⟩,a5⟩:=a;obtain ⟨b1,b2,⟨q1,q2,q3⟩,⟨u1,u2,u3⟩,b5⟩:=b;simp only[obs,h2h,tfd];by_cases h1:a1=b1
 case neg=>simp[h1]
 by_cases h2:a2=b2
 case neg=>simp[h1,h2]
 by_cases h3:r1=q1
 case neg=>simp[h1,h2,h3]
 by_cases h4:r2=q2
 case neg=>simp[h1,h2,h3,h4]
 by_cases h5:r3=q3
 case neg=>simp[h1,h2,h3,h4,h5]
 by_cases h6:t1=u1
 case neg=>simp[h1,h2,h3,h4,h5,h6]
 by_cases h7:t2=u2
 case neg=>simp[h1,h2,h3,h4,h5,h6,h7]
 by_cases h8:t3=u3
 case neg=>simp[h1,h2,h3,h4,h5,h6,h7,h8]
 by_cases h9:a5=b5
 case neg=>simp[h1,h2,h3,h4,h5,h6,h7,h8,h9]
 simp[h1,h2,h3,h4,h5,h6,h7,h8,h9]
theorem r15_same (n:Nat) (a b:Ser) (h:SerM a):w0w (n+3) a b=some (decide (a=b)):=by
 rw[x1l,x1t,x1n,v0m (n+1) _ _ h.l,e1x n _ _ h.r,v0l n _ _ h.a,v0l n _ _ h.b,v0l n _ _ h.d];obtain ⟨a1,a2,⟨r1,r2,r3⟩,⟨t1,t2,t3⟩,a5⟩:=a;obtain ⟨b1,b2,⟨q1,q2,q3⟩,⟨u1,u2,u3⟩,b5⟩:=b;simp only[obs,h2h,tfd,tfn];by_cases h1:a1=b1
 case neg=>simp[h1]
 by_cases h2:a2=b2
 case neg=>simp[h1,h2]
 by_cases h3:r1=q1
 case neg=>simp[h1,h2,h3]
 by_cases h4:r2=q2
 case neg=>simp[h1,h2,h3,h4]
 by_cases h5:r3=q3
 case neg=>simp[h1,h2,h3,h4,h5]
 by_cases h6:t1=u1
 case neg=>simp[h1,h2,h3,h4,h5,h6]
 by_cases h7:t2=u2
 case neg=>simp[h1,h2,h3,h4,h5,h6,h7]
 by_cases h8:t3=u3
 case neg=>simp[h1,h2,h3,h4,h5,h6,h7,h8]
 by_cases h9:a5=b5
 case neg=>simp[h1,h2,h3,h4,h5,h6,h7,h8,h9]
 simp[h1,h2,h3,h4,h5,h6,h7,h8,h9]
def oldV (now w m:Int):Int×Int:=if OfP now w/\1<=m/\m<=4096 then (if 0<now / w+1-m then now / w+1-m else 0,0) else (0,1)
theorem q1p (n:Nat) (now w m:Int):f0d (n+4) now w m=some (oldV now w m):=by
 rw[q1s,wi_of n now w,q1q];unfold oldV;by_cases h:OfP now w
 case neg=>rw[q0n h,q0n (fun k=>h k.1)];rfl
 rw[q0z h];have hq:=x0l h;simp only[obs,decide_true,q2s,tff];by_cases h1:1<=m
 case neg=>simp[h,h1]
 by_cases h2:m<=4096
 case neg=>simp[h,h1,h2]
 rw[w64 (x:=now / w+1) (by omega) (by omega),w64 (x:=now / w+1-m) (by omega) (by omega)];simp[h,h1,h2]
theorem k1p (n:Nat) (now w m:Int):d0w (n+3) now w m=some (oldV now w m):=by
 rw[n1v,s1s n now w];unfold oldV;by_cases h:OfP now w
 case neg=>rw[q0n h,q0n (fun k=>h k.1)];rfl
 rw[q0z h];have hq:=x0l h;simp only[obs,decide_true,q2s,tff,tfd];by_cases h1:m<1
 ·rw[q0z h1,q0n (by omega)]
 rw[q0n h1];by_cases h2:4096<m
 ·rw[q0z h2,q0n (by omega)]
 rw[q0n h2,w64 (x:=now / w-m) (by omega) (by omega),w64 (x:=now / w-m+1) (by omega) (by omega),q0z (show OfP now w/\1<=m/\m<=4096 from ⟨h,by omega,by omega⟩)];have e:(if now / w-m+1<0 then (0:Int) else now / w-m+1)=if 0<now / w+1-m then now / w+1-m else 0:=by
  split<;>split<;>omega
 rw[e]
noncomputable def z0y (t now w m:Int):Bool:=decide (OfP t w/\(oldV now w m).2=0/\t / w<(oldV now w m).1)
theorem v1v (n:Nat) (t now w m:Int):c1t (n+5) t now w m=some (z0y t now w m):=by
 rw[c2s,wi_of (n+1) t w,q1p n now w m];unfold z0y;simp only[obs,tfd];by_cases h:OfP t w
 case neg=>rw[q0n h,q0n (by simp),q1z (fun k=>h k.1)]
 rw[q0z h,q0z rfl];by_cases h1:(oldV now w m).2=0
 ·rw[q0z h1];exact congrArg some (q2r.2 ⟨fun k=>⟨h,h1,k⟩,fun k=>k.2.2⟩)
 ·rw[q0n h1,q1z (fun k=>h1 k.2.1)]
theorem n1u (n:Nat) (t now w m:Int):x0e (n+4) t now w m=some (z0y t now w m):=by
 rw[x1z,s1s (n+1) t w,k1p n now w m];unfold z0y;simp only[obs,tfd];by_cases h:OfP t w
 case neg=>rw[q0n h,q0n (by simp),q1z (fun k=>h k.1)]
 rw[q0z h,q0z rfl];by_cases h1:(oldV now w m).2=0
 ·rw[q0z h1];exact congrArg some (q2r.2 ⟨fun k=>⟨h,h1,k⟩,fun k=>k.2.2⟩)
 ·rw[q0n h1,q1z (fun k=>h1 k.2.1)]
noncomputable def z1s (c:Conf) (last now:Int):Bool :=
 decide (OkC c)&&(z0y last now c.2.1.1 c.2.2.1.1&&(z0y last now c.2.1.2.1 c.2.2.1.2.1&&z0y last now c.2.1.2.2 c.2.2.1.2.2))
theorem w1s (n:Nat) (c:Conf) (last now:Int):v0a (n+6) c last now=some (z1s c last now):=by
 rw[f1s,a1d (n+2) c,v1v n,v1v n,v1v n];unfold z1s;by_cases h:OkC c
 case neg=>rw[q0n h,q1z h];rfl
 rw[q0z h,q2a h];simp only[obs,decide_true,tft,Bool.true_and];cases z0y last now c.2.1.1 c.2.2.1.1<;>cases z0y last now c.2.1.2.1 c.2.2.1.2.1<;>cases z0y last now c.2.1.2.2 c.2.2.1.2.2<;>rfl
theorem r15_dead (n:Nat) (c:Conf) (last now:Int):n1r (n+5) c last now=some (z1s c last now):=by
 rw[x1m,o0a (n+1) c,n1u n,n1u n,n1u n];unfold z1s;by_cases h:OkC c
 case neg=>rw[q0n h,q1z h];rfl
 rw[q0z h,q2a h];simp only[obs,decide_true,q2s,tff,Bool.true_and];cases z0y last now c.2.1.1 c.2.2.1.1<;>cases z0y last now c.2.1.2.1 c.2.2.1.2.1<;>cases z0y last now c.2.1.2.2 c.2.2.1.2.2<;>rfl
abbrev Sta:=Conf×(Int×(Int×List Ser))
structure StaW (s:Sta):Prop where
 len:s.2.2.2.length<=9223372036854775807
 ser:∀x∈s.2.2.2,SerW x/\SerM x
def Whole (s:Sta):Prop:=OkC s.1/\(s.2.2.2.length:Int)=s.1.2.2.2.1
noncomputable instance (s):Decidable (Whole s):=Classical.propDecidable _
def LvX (s:Sta) (x:Ser):Prop:=x≠ser0/\(s.2.2.1 = -1\/z1s s.1 x.2.1 s.2.2.1=false)
noncomputable instance (s x):Decidable (LvX s x):=Classical.propDecidable _
def s0q (t:Int):Prop:=0<=t/\t<35184372088832
instance (t):Decidable (s0q t):=by unfold s0q;infer_instance
def Clock (s:Sta):Prop:=s0q s.2.1/\(s.2.2.1 = -1\/s0q s.2.2.1)/\s.2.2.1<=s.2.1
instance (s):Decidable (Clock s):=by unfold Clock;infer_instance
def mk (s:Sta):Int:=s.2.1 / s.1.2.1.1*s.1.2.1.1
def Twin (s:Sta) (i:Nat) (x:Ser):Prop:=LvX s x/\∃k,k<i/\∃y,s.2.2.2[k]? = some y/\LvX s y/\y.1=x.1
noncomputable instance (s i x):Decidable (Twin s i x):=Classical.propDecidable _
def i0g (s:Sta) (i:Nat) (x:Ser):Prop:=x=ser0\/(SerOk s.1 x/\0<=x.2.1/\x.2.1<mk s+s.1.2.1.1/\¬Twin s i x)
noncomputable instance (s i x):Decidable (i0g s i x):=Classical.propDecidable _
structure StaOk (s:Sta):Prop where
 whole:Whole s
 clock:Clock s
 right:∀(i:Nat) x,s.2.2.2[i]? = some x->i0g s i x
noncomputable instance (s):Decidable (StaOk s):=Classical.propDecidable _
theorem Whole.len {s:Sta} (h:Whole s):s.2.2.2.length<=65536:=by
 have:=h.1.rng.cap;have:=h.2;omega
theorem v0p {α:Type} {l:List α} {i:Nat} {x:α} (h:l[i]? = some x):at? l (i:Int)=some x:=by
 unfold at?;rw[q2a (show (0:Int)<=(i:Int) by omega),q2i];exact h
theorem StaW.at {s:Sta} (h:StaW s) {i:Nat} {x:Ser} (hx:s.2.2.2[i]? = some x):SerW x/\SerM x:=h.ser x (q2z hx)
theorem a2g (n:Nat) {x:Ser} (h:SerM x):w0d (n+4) x=some (decide (x=ser0)):=by
 have:=w1r n x ser0 h;rw[r1g];have e:l0n (n+3) x ([],((0:Int),(((0:Int),((0:Int),[])),(([],([],[])),((0:Int),z0)))))=some (decide (x=ser0)):=this
 change a0a (l0n (n+3) x ([],((0:Int),(((0:Int),((0:Int),[])),(([],([],[])),((0:Int),z0)))))) _=_
 rw[e];rfl
theorem s1e (n:Nat) {x:Ser} (h:SerM x):w0u (n+4) x=some (decide (x=ser0)):=by
 have:=r15_same n x ser0 h;rw[s1f];have e:w0w (n+3) x ([],((0:Int),(((0:Int),((0:Int),[])),(([],([],[])),((0:Int),z0)))))=some (decide (x=ser0)):=this
 change a0a (w0w (n+3) x ([],((0:Int),(((0:Int),((0:Int),[])),(([],([],[])),((0:Int),z0)))))) _=_
 rw[e];rfl
theorem m1i (n:Nat) {s:Sta} {i:Nat} {x:Ser} (hx:s.2.2.2[i]? = some x) (hm:SerM x):g0n (n+7) s (i:Int)=some (decide (LvX s x)):=by
 rw[y0w,v0p hx,obs,a2g (n+2) hm,obs,tfn,tfd,w1s n];by_cases h:x=ser0
 ·rw[q0z h,q1z (fun k:LvX s x=>k.1 h)]
 rw[q0n h,tfd];by_cases h1:s.2.2.1 = -1
 ·rw[q0z h1,q2a (show LvX s x from ⟨h,.inl h1⟩)]
 ·rw[q0n h1];cases hd:z1s s.1 x.2.1 s.2.2.1
  ·rw[q2a (show LvX s x from ⟨h,.inr hd⟩)];rfl
  ·rw[q1z (fun k:LvX s x=>by rcases k.2 with k | k;exact h1 k;rw[hd] at k;cases k)];rfl
theorem p0s (n:Nat) {s:Sta} {i:Nat} {x:Ser} (hx:s.2.2.2[i]? = some x) (hm:SerM x):r0p (n+6) s (i:Int)=some (decide (LvX s x)):=by
 rw[s1d,v0p hx,obs,s1e (n+1) hm,obs,tfn,tfd,obs,r15_dead n];by_cases h:x=ser0
 ·rw[q0z h,q1z (fun k:LvX s x=>k.1 h)]
 rw[q0n h,tfd];by_cases h1:s.2.2.1 = -1
 ·rw[q0z h1,q2a (show LvX s x from ⟨h,.inl h1⟩)]
 ·rw[q0n h1];cases hd:z1s s.1 x.2.1 s.2.2.1
  ·rw[q2a (show LvX s x from ⟨h,.inr hd⟩)];rfl
  ·rw[q1z (fun k:LvX s x=>by rcases k.2 with k | k;exact h1 k;rw[hd] at k;cases k)];rfl
theorem place_l (n:Nat) (is:(Int×Unit)->Option Bool) (p:Nat->Bool) (L:Nat) (hL:L<=1000000) (his:∀k:Nat,k<L->is ((k:Int),())=some (p k)):∀(d k f:Nat),k+d=L->d<f ->
  (∃m:Nat,k<=m/\m<L/\p m=true/\(∀j,k<=j->j<m->p j=false)/\c0t n f (is,(L:Int),(k:Int),())=some (.inr (m:Int))) \/
  ((∀j,k<=j->j<L->p j=false)/\c0t n f (is,(L:Int),(k:Int),())=some (.inl ())):=by
 intro d;induction d with
 | zero =>
  intro k f hk hf;obtain ⟨f,rfl⟩:∃g,f=g+1:=⟨f-1,by omega⟩;refine .inr ⟨fun j h1 h2=>by omega,?_⟩;rw[j0x,q1z (by omega),tff]
 | succ d ih =>
  intro k f hk hf;obtain ⟨f,rfl⟩:∃g,f=g+1:=⟨f-1,by omega⟩;rw[j0x,q2a (by omega),tft,his k (by omega),obs];cases hp:p k
  ·rw[tff,w64 (by omega) (by omega),show ((k:Int)+1)=((k+1:Nat):Int) by omega];rcases ih (k+1) f (by omega) (by omega) with ⟨m,h1,h2,h3,h4,h5⟩ | ⟨h1,h2⟩
   ·exact .inl ⟨m,by omega,h2,h3,fun j q1 q2=>by
     rcases Nat.lt_or_ge k j with q | q
     ·exact h4 j (by omega) q2
     ·rw[show j=k by omega];exact hp,h5⟩
   ·exact .inr ⟨fun j q1 q2=>by
     rcases Nat.lt_or_ge k j with q | q
     ·exact h1 j (by omega) q2
     ·rw[show j=k by omega];exact hp,h2⟩
  ·rw[tft];exact .inl ⟨k,q2e _,by omega,hp,fun j q1 q2=>by omega,rfl⟩
theorem e1u (n:Nat) (s:Sta) (is:(Int×Unit)->Option Bool) (p:Nat->Bool) (hL:s.2.2.2.length<=1000000) (his:∀k:Nat,k<s.2.2.2.length->is ((k:Int),())=some (p k)) :
  (∃m:Nat,m<s.2.2.2.length/\p m=true/\(∀j,j<m->p j=false)/\f0g (n+1) s is=some (m:Int)) \/
  ((∀j,j<s.2.2.2.length->p j=false)/\f0g (n+1) s is=some (-1)):=by
 rw[y0v];rcases place_l n is p _ hL his s.2.2.2.length 0 a0b (by omega) (by unfold a0b;omega) with ⟨m,h1,h2,h3,h4,h5⟩ | ⟨h1,h2⟩
 ·refine .inl ⟨m,h2,h3,fun j q=>h4 j (by omega) q,?_⟩;have h5':c0t n a0b (is,(s.2.2.2.length:Int),(0:Int),())=some (.inr (m:Int)):=h5;rw[h5'];rfl
 ·refine .inr ⟨fun j q=>h1 j (by omega) q,?_⟩;have h2':c0t n a0b (is,(s.2.2.2.length:Int),(0:Int),())=some (.inl ()):=h2;rw[h2'];rfl
theorem k1z (n:Nat) (a b:List Lab) (h:a.length<=9223372036854775807):o0l (n+2) a b=some (decide (a=b)):=by
 rw[y0c,o0r n a b h];rfl
def IsTw (s:Sta) (i k:Nat) (x:Ser):Prop:=k=i\/∃y,s.2.2.2[k]? = some y/\LvX s y/\y.1=x.1
noncomputable instance (s i k x):Decidable (IsTw s i k x):=Classical.propDecidable _
theorem st_twin (n:Nat) {s:Sta} (hw:StaW s) (hL:s.2.2.2.length<=1000000) {i:Nat} {x:Ser} (hx:s.2.2.2[i]? = some x):p0e (n+9) s (i:Int)=some (decide (Twin s i x)):=by
 have hil:i<s.2.2.2.length:=(q2p.1 hx).1;have hm:=(hw.at hx).2;rw[b1n];have his:∀k:Nat,k<s.2.2.2.length->(fun y0:Int×Unit=>f0q (n+8) y0.1 (i:Int) s) ((k:Int),())=some (decide (IsTw s i k x)):=by
  intro k hk;have hy:s.2.2.2[k]? = some s.2.2.2[k]:=q2b hk;generalize s.2.2.2[k]=y at hy;have hmy:=(hw.at hy).2;show f0q (n+8) (k:Int) (i:Int) s=_;rw[w0c,tfd,m1i n hy hmy,obs,v0p hy,obs,v0p hx,obs,k1z (n+5) _ _ hmy.l,obs,tfd];by_cases h1:k=i
  ·rw[q0z (by rw[h1]),q2a (show IsTw s i k x from .inl h1)]
  rw[q0n (by omega)];by_cases h2:LvX s y
  ·rw[q0z h2];refine congrArg some (q2r.2 ⟨fun h3 => .inr ⟨y,hy,h2,h3⟩,fun h3 => ?_⟩);rcases h3 with h3 | ⟨z,z1,z2,z3⟩
   ·exact absurd h3 h1
   ·rw[hy] at z1;cases z1;exact z3
  ·rw[q0n h2,q1z];rintro (h3 | ⟨z,z1,z2,z3⟩)
   ·exact h1 h3
   ·rw[hy] at z1;cases z1;exact h2 z2
 rcases e1u (n+7) s (fun y0:Int×Unit=>f0q (n+8) y0.1 (i:Int) s) (fun k=>decide (IsTw s i k x)) hL his with ⟨m,h1,h2,h3,h4⟩ | ⟨h1,h2⟩
 ·rw[h4,obs,tfd,m1i (n+1) hx hm];have h2:=of_decide_eq_true h2;have hmi:m<=i:=by
   rcases Nat.lt_or_ge i m with q | q
   ·have:=of_decide_eq_false (h3 i q);exact absurd (.inl rfl) this
   ·exact q
  by_cases q:m<i
  ·rw[q0z (by omega),obs];refine congrArg some (q2r.2 ⟨fun k=>⟨k,m,q,?_⟩,fun k=>k.1⟩);exact h2.resolve_left (by omega)
  ·rw[q0n (by omega),q1z];rintro ⟨k1,k,k2,k3⟩;exact of_decide_eq_false (h3 k (by omega)) (.inr k3)
 ·exact absurd (.inl rfl) (of_decide_eq_false (h1 i hil))
theorem x0x {s:Sta} (h:s0q s.2.1) (hw:1<=s.1.2.1.1/\s.1.2.1.1<=1099511627776):0<=mk s/\mk s<=s.2.1/\s.2.1<mk s+s.1.2.1.1/\s.2.1-s.2.1 % s.1.2.1.1=mk s:=by
 have e:=Int.mul_ediv_add_emod s.2.1 s.1.2.1.1;have e1:=Int.emod_nonneg s.2.1 (show s.1.2.1.1≠0 by omega);have e2:=Int.emod_lt_of_pos s.2.1 (show 0<s.1.2.1.1 by omega);rw[Int.mul_comm] at e;have e3:0<=mk s:=Int.mul_nonneg (Int.ediv_nonneg h.1 (by omega)) (by omega);unfold mk at *
 exact ⟨e3,by omega,by omega,by omega⟩
theorem st_mark (n:Nat) {s:Sta} (h:s0q s.2.1) (hw:1<=s.1.2.1.1/\s.1.2.1.1<=1099511627776):p0f (n+1) s=some (mk s):=by
 have:=x0x h hw;have:=h.1;have:=h.2;rw[b1o,tfd,q0n (by omega),e0w h.1,w64 (by omega) (by omega),(x0x h hw).2.2.2]
theorem st_right (n:Nat) {s:Sta} (hw:StaW s) (hh:Whole s) (ht:s0q s.2.1) {i:Nat} {x:Ser} (hx:s.2.2.2[i]? = some x):m0v (n+12) s (i:Int)=some (decide (i0g s i x)):=by
 have hm:=hw.at hx;have hr:=hh.1.rng;have hL:=hh.len;have hmk:=x0x ht hr.w0;have ht1:=ht.1;have ht2:=ht.2;have hw0:=hr.w0;obtain ⟨m1,m2,m3,m4⟩:=hmk;rw[y0u,v0p hx,obs,a2g (n+7) hm.2,obs,tfd,r1r n s.1 hm.1,obs,st_mark (n+10) ht hr.w0,obs,w64 (by omega) (by omega),st_twin (n+2) hw (by omega) hx,obs];simp only[tfd];by_cases h0:x=ser0
 ·rw[q0z h0,q2a (show i0g s i x from .inl h0)]
 rw[q0n h0];by_cases h1:SerOk s.1 x
 case neg=>rw[q0n h1,q0n (by decide),q1z (fun q:i0g s i x=>by rcases q with k | k;exact h0 k;exact h1 k.1)]
 rw[q0z h1,q0z rfl];by_cases h2:0<=x.2.1
 case neg=>rw[q0n h2,q1z (fun q:i0g s i x=>by rcases q with k | k;exact h0 k;exact h2 k.2.1)]
 rw[q0z h2];by_cases h3:x.2.1<mk s+s.1.2.1.1
 case neg=>rw[q0n h3,q1z (fun q:i0g s i x=>by rcases q with k | k;exact h0 k;exact h3 k.2.2.1)]
 rw[q0z h3];by_cases h4:Twin s i x
 ·rw[q2a h4,q1z (fun q:i0g s i x=>by rcases q with k | k;exact h0 k;exact k.2.2.2 h4)];rfl
 ·rw[q1z h4,q2a (show i0g s i x from .inr ⟨h1,h2,h3,h4⟩)];rfl
def sta0:Sta:=(((0:Int),(((0:Int),((0:Int),(0:Int))),(((0:Int),((0:Int),(0:Int))),((0:Int),(0:Int))))),((0:Int),((0:Int),[])))
theorem h2d (n:Nat) (s:Sta):c1c (n+4) s=some (if Whole s then (s,0) else (sta0,2)):=by
 rw[w1j,a1d n s.1,obs,tfn,tfd,tfn,tfd];by_cases h:OkC s.1
 case neg=>rw[q0n h,q0n (show ¬((2:Int)=0) by decide),q0n (fun k:Whole s=>h k.1)];rfl
 rw[q0z h,q0z rfl];by_cases h1:(s.2.2.2.length:Int)=s.1.2.2.2.1
 ·rw[q0z h1,q0z (show Whole s from ⟨h,h1⟩)]
 ·rw[q0n h1,q0n (fun k:Whole s=>h1 k.2)];rfl
theorem h2c (n:Nat) (t:Int):c1b (n+1) t=some (decide (s0q t)):=by
 rw[w1i,tfd];by_cases h:0<=t
 ·rw[q0z h];exact congrArg some (q2r.2 ⟨fun k=>⟨h,k⟩,fun k=>k.2⟩)
 ·rw[q0n h,q1z (fun k:s0q t=>h k.1)]
theorem r0o (n:Nat) (t:Int):w0s (n+1) t=some (decide (s0q t)):=by
 rw[x1h,tfd];by_cases h:0<=t
 ·rw[q0z h];exact congrArg some (q2r.2 ⟨fun k=>⟨h,k⟩,fun k=>k.2⟩)
 ·rw[q0n h,q1z (fun k:s0q t=>h k.1)]
theorem st_clock (n:Nat) (s:Sta):m0w (n+2) s=some (decide (Clock s)):=by
 rw[y0x,h2c n,h2c n,obs,obs];simp only[tfd];by_cases h:s0q s.2.1
 case neg=>rw[q0n h,q1z (fun k:Clock s=>h k.1)]
 rw[q0z h];by_cases h1:s.2.2.1 = -1
 ·rw[q0z h1];exact congrArg some (q2r.2 ⟨fun k=>⟨h,.inl h1,k⟩,fun k=>k.2.2⟩)
 rw[q0n h1];by_cases h2:s0q s.2.2.1
 ·rw[q0z h2];exact congrArg some (q2r.2 ⟨fun k=>⟨h,.inr h2,k⟩,fun k=>k.2.2⟩)
 ·rw[q0n h2,q1z (fun k:Clock s=>by rcases k.2.1 with q | q;exact h1 q;exact h2 q)]
def Wrong (s:Sta) (k:Nat):Prop:=∃x,s.2.2.2[k]? = some x/\¬i0g s k x
noncomputable instance (s k):Decidable (Wrong s k):=Classical.propDecidable _
theorem r0b (n:Nat) {s:Sta} (hw:StaW s):h0g (n+14) s=some (if StaOk s then 0 else 2):=by
 rw[r1h,h2d (n+9) s,obs,tfn,tfd];by_cases h:Whole s
 case neg=>rw[q0n h,q0n (show ¬((sta0,(2:Int)).2=0) by decide),q0n (fun k:StaOk s=>h k.whole)]
 rw[q0z h,q0z rfl,st_clock (n+11) s,obs,tfn,tfd];by_cases h1:Clock s
 case neg=>rw[q0n h1,q0n (fun k:StaOk s=>h1 k.clock)]
 rw[q0z h1];have hL:=h.len;have his:∀k:Nat,k<s.2.2.2.length->(fun y2:Int×Unit=>e0x (n+13) y2.1 s) ((k:Int),())=some (decide (Wrong s k)):=by
  intro k hk;have hy:s.2.2.2[k]? = some s.2.2.2[k]:=q2b hk;generalize s.2.2.2[k]=y at hy;show e0x (n+13) (k:Int) s=_;rw[f1p,st_right n hw h h1.1 hy,obs];by_cases q:i0g s k y
  ·rw[q2a q,q1z (fun z:Wrong s k=>by obtain ⟨x,x1,x2⟩:=z;rw[hy] at x1;cases x1;exact x2 q)];rfl
  ·rw[q1z q,q2a (show Wrong s k from ⟨y,hy,q⟩)];rfl
 rcases e1u (n+12) s (fun y2:Int×Unit=>e0x (n+13) y2.1 s) (fun k=>decide (Wrong s k)) (by omega) his with ⟨m,q1,q2,q3,q4⟩ | ⟨q1,q2⟩
 ·rw[show (fun y2:Int×Unit=>e0x (n+13) y2.1 (s,(0:Int)).1)=fun y2:Int×Unit=>e0x (n+13) y2.1 s from rfl];obtain ⟨x,x1,x2⟩:=of_decide_eq_true q2;rw[q4,obs,tfd,q0z (by omega),q0n (fun k:StaOk s=>x2 (k.right m x x1))]
 ·rw[show (fun y2:Int×Unit=>e0x (n+13) y2.1 (s,(0:Int)).1)=fun y2:Int×Unit=>e0x (n+13) y2.1 s from rfl];rw[q2,obs,tfd,q0n (by decide),q0z];refine ⟨h,h1,fun i x hx => ?_⟩;have:=of_decide_eq_false (q1 i (q2p.1 hx).1);exact Decidable.byContradiction fun k=>this ⟨x,hx,k⟩
theorem p0r (n:Nat) (s:Sta):r0n (n+4) s=some (decide (Whole s)):=by
 rw[s1c,o0a n s.1,obs,tfd];by_cases h:OkC s.1
 case neg=>rw[q0n h,q0n (show ¬((2:Int)=0) by decide),q1z (fun k:Whole s=>h k.1)]
 rw[q0z h,q0z rfl];exact congrArg some (q2r.2 ⟨fun k=>⟨h,k⟩,fun k=>k.2⟩)
theorem r17_mark (n:Nat) {s:Sta} (hh:Whole s) (h:s0q s.2.1):w0t (n+5) s=some (mk s):=by
 have hw:=hh.1.rng.w0;obtain ⟨m1,m2,m3,m4⟩:=x0x h hw;have h1:=h.1;have h2:=h.2;rw[x1j,p0r n s,obs,tfn,tfd,q0z hh,r0o (n+3),obs,tfn,tfd,q0z h,tfd,q0n (by omega),h0y h hw.1];rw[w64 (show -9223372036854775808<=s.2.1 / s.1.2.1.1*s.1.2.1.1 from by unfold mk at m1;omega) (by unfold mk at m2;omega)];rfl
theorem r17_l11 (n:Nat) {s:Sta} (hw:StaW s) (hL:s.2.2.2.length<=1000000) (i:Nat) (x:Ser) (hx:s.2.2.2[i]? = some x) (e:Int) (p:List Ser) (q r:Int):∀(d k f:Nat),k+d=i->d<f ->
  ((∃j,k<=j/\j<i/\LvX s x/\∃y,s.2.2.2[j]? = some y/\LvX s y/\y.1=x.1)/\d0h (n+6) f (s,e,(i:Int),x,p,q,r,(i:Int),(k:Int),())=some (.inr 2)) \/
  (¬(∃j,k<=j/\j<i/\LvX s x/\∃y,s.2.2.2[j]? = some y/\LvX s y/\y.1=x.1)/\d0h (n+6) f (s,e,(i:Int),x,p,q,r,(i:Int),(k:Int),())=some (.inl (s,e,p,q,r,()))):=by
 have hil:i<s.2.2.2.length:=(q2p.1 hx).1;have hm:=(hw.at hx).2;intro d;induction d with
 | zero =>
  intro k f hk hf;obtain ⟨f,rfl⟩:∃g,f=g+1:=⟨f-1,by omega⟩;refine .inr ⟨fun ⟨j,h1,h2,_⟩=>by omega,?_⟩;rw[q0s,q1z (by omega),tff]
 | succ d ih =>
  intro k f hk hf;obtain ⟨f,rfl⟩:∃g,f=g+1:=⟨f-1,by omega⟩;have hkl:k<s.2.2.2.length:=by omega
  have hy:s.2.2.2[k]? = some s.2.2.2[k]:=q2b hkl;generalize s.2.2.2[k]=y at hy;have hmy:=(hw.at hy).2;have ih':=ih (k+1) f (by omega) (by omega);have step:¬(LvX s x/\LvX s y/\y.1=x.1)->((∃j,k+1<=j/\j<i/\LvX s x/\∃y,s.2.2.2[j]? = some y/\LvX s y/\y.1=x.1)↔(∃j,k<=j/\j<i/\LvX s x/\∃y,s.2.2.2[j]? = some y/\LvX s y/\y.1=x.1)):=by
   intro hn;constructor
   ·rintro ⟨j,h1,h2⟩;exact ⟨j,by omega,h2⟩
   ·rintro ⟨j,h1,h2,h3,z,h4,h5,h6⟩;rcases Nat.lt_or_ge k j with g | g
    ·exact ⟨j,by omega,h2,h3,z,h4,h5,h6⟩
    ·obtain rfl:j=k:=by omega
     rw[hy] at h4;cases h4;exact absurd ⟨h3,h5,h6⟩ hn
  rw[q0s,q2a (by omega),tft,p0s n hx hm,obs,tfd,p0s n hy hmy,obs,tfd,v0p hy,obs,v0m (n+5) _ _ hmy.l,obs,tfd,w64 (by omega) (by omega),show ((k:Int)+1)=((k+1:Nat):Int) by omega];by_cases h1:LvX s x
  case neg=>rw[q0n h1,<-step (fun z=>h1 z.1)];exact ih'
  rw[q0z h1];by_cases h2:LvX s y
  case neg=>rw[q0n h2,<-step (fun z=>h2 z.2.1)];exact ih'
  rw[q0z h2];by_cases h3:y.1=x.1
  case neg=>rw[q0n h3,<-step (fun z=>h3 z.2.2)];exact ih'
  rw[q0z h3];exact .inl ⟨⟨k,q2e _,by omega,h1,y,hy,h2,h3⟩,rfl⟩
theorem r17_l5 (n:Nat) {s:Sta} (hw:StaW s) (hh:Whole s) (ht:s0q s.2.1):∀(d i f:Nat),i+d=s.2.2.2.length->d<f ->
  ((∀(j:Nat) x,i<=j->s.2.2.2[j]? = some x->i0g s j x)/\d0l (n+8) f (s,mk s+s.1.2.1.1,s.2.2.2,(s.2.2.2.length:Int),(i:Int),())=some (.inl ())) \/
  (¬(∀(j:Nat) x,i<=j->s.2.2.2[j]? = some x->i0g s j x)/\d0l (n+8) f (s,mk s+s.1.2.1.1,s.2.2.2,(s.2.2.2.length:Int),(i:Int),())=some (.inr 2)):=by
 have hL:=hh.len;intro d;induction d with
 | zero =>
  intro i f hi hf;obtain ⟨f,rfl⟩:∃g,f=g+1:=⟨f-1,by omega⟩;refine .inl ⟨fun j x h1 h2 => ?_,?_⟩
  ·have:=(q2p.1 h2).1;omega
  ·rw[r0q,q1z (by omega),tff]
 | succ d ih =>
  intro i f hi hf;obtain ⟨f,rfl⟩:∃g,f=g+1:=⟨f-1,by omega⟩;have hx:s.2.2.2[i]? = some (s.2.2.2[i]'(by omega)):=q2b (by omega);generalize s.2.2.2[i]'(by omega)=x at hx;have hm:=hw.at hx;have ih':=ih (i+1) f (by omega) (by omega);have step:i0g s i x->((∀(j:Nat) x,i+1<=j->s.2.2.2[j]? = some x->i0g s j x)↔(∀(j:Nat) x,i<=j->s.2.2.2[j]? = some x->i0g s j x)):=by
   intro hr;constructor
   ·intro h j y h1 h2;rcases Nat.lt_or_ge i j with g | g
    ·exact h j y (by omega) h2
    ·obtain rfl:j=i:=by omega
     rw[hx] at h2;cases h2;exact hr
   ·intro h j y h1 h2;exact h j y (by omega) h2
  have bad:¬i0g s i x->¬(∀(j:Nat) x,i<=j->s.2.2.2[j]? = some x->i0g s j x):=fun h k=>h (k i x (q2e _) hx)
  rw[r0q,q2a (by omega),tft,v0p hx,obs,s1e (n+4) hm.2,obs,tfd,w0v n s.1 hm.1,obs,w64 (by omega) (by omega),show ((i:Int)+1)=((i+1:Nat):Int) by omega];by_cases h0:x=ser0
  ·rw[q0z h0,<-step (.inl h0)];exact ih'
  rw[q0n h0,tfn,tfd];by_cases h1:SerOk s.1 x
  case neg=>rw[q0n h1,q0n (show ¬((2:Int)=0) by decide)];exact .inr ⟨bad fun k=>by rcases k with k | k;exact h0 k;exact h1 k.1,rfl⟩
  rw[q0z h1,q0z rfl,tfd];by_cases h2:x.2.1<0
  ·rw[q0z h2];exact .inr ⟨bad fun k=>by rcases k with k | k;exact h0 k;have:=k.2.1;omega,rfl⟩
  rw[q0n h2,tfd];by_cases h3:mk s+s.1.2.1.1<=x.2.1
  ·rw[q0z h3];exact .inr ⟨bad fun k=>by rcases k with k | k;exact h0 k;have:=k.2.2.1;omega,rfl⟩
  rw[q0n h3,q2a (show (0:Int)<=(i:Int) by omega),q2a (show (i:Int)<=(s.2.2.2.length:Int) by omega),Bool.and_self,tft,show (List.drop 0 (List.take (Int.toNat (i:Int)) s.2.2.2)).length=i by simp;omega];rcases r17_l11 (n+2) hw (by omega) i x hx (mk s+s.1.2.1.1) s.2.2.2 (s.2.2.2.length:Int) (i:Int) i 0 a0b (by omega) (by unfold a0b;omega) with ⟨q1,q2⟩ | ⟨q1,q2⟩
  ·have q2':d0h (n+8) a0b (s,mk s+s.1.2.1.1,(i:Int),x,s.2.2.2,(s.2.2.2.length:Int),(i:Int),(i:Int),(0:Int),())=some (.inr 2):=q2;rw[q2',obs,f0r];obtain ⟨j,j1,j2,j3,j4⟩:=q1;exact .inr ⟨bad fun k=>by rcases k with k | k;exact h0 k;exact k.2.2.2 ⟨j3,j,j2,j4⟩,rfl⟩
  ·have q2':d0h (n+8) a0b (s,mk s+s.1.2.1.1,(i:Int),x,s.2.2.2,(s.2.2.2.length:Int),(i:Int),(i:Int),(0:Int),())=some (.inl (s,mk s+s.1.2.1.1,s.2.2.2,(s.2.2.2.length:Int),(i:Int),())):=q2;rw[q2',obs,a0t];have hr:i0g s i x := .inr ⟨h1,by omega,by omega,fun ⟨k1,j,k2,k3⟩=>q1 ⟨j,by omega,k2,k1,k3⟩⟩;rw[<-step hr,show wrap .i64 ((i:Int)+1)=((i+1:Nat):Int) by rw[w64 (by omega) (by omega)];omega];exact ih'
theorem l0s (n:Nat) {s:Sta} (hw:StaW s):h0s (n+9) s=some (if StaOk s then 0 else 2):=by
 rw[s1g,p0r (n+4) s,obs,tfn,tfd];by_cases h:Whole s
 case neg=>rw[q0n h,q0n (fun k:StaOk s=>h k.whole)]
 rw[q0z h,r0o,obs,tfn,tfd];by_cases h1:s0q s.2.1
 case neg=>rw[q0n h1,q0n (fun k:StaOk s=>h1 k.clock.1)]
 have tail:(Clock s)->(a0a (w0t (n+8) s) fun r3 =>
   a0a (d0l (n+8) a0b (s,((wrap .i64 (r3+s.1.2.1.1)),(s.2.2.2,((((List.length s.2.2.2):Nat):Int),((0:Int),())))))) fun r4 =>
   b0x (fun y5=>some (0:Int)) (fun z6=>some z6) r4)=some (if StaOk s then 0 else 2):=by
  intro hcl;have hr:=h.1.rng;obtain ⟨m1,m2,m3,m4⟩:=x0x h1 hr.w0;have t2:=h1.2;have w0:=hr.w0;rw[r17_mark (n+3) h h1,obs,w64 (by omega) (by omega)];rcases r17_l5 n hw h h1 s.2.2.2.length 0 a0b (by omega) (by have:=h.len;unfold a0b;omega) with ⟨q1,q2⟩ | ⟨q1,q2⟩
  ·have q2':d0l (n+8) a0b (s,mk s+s.1.2.1.1,s.2.2.2,(s.2.2.2.length:Int),(0:Int),())=some (.inl ()):=q2;rw[q2',obs,a0t,q0z (show StaOk s from ⟨h,hcl,fun i x hx=>q1 i x (by omega) hx⟩)]
  ·have q2':d0l (n+8) a0b (s,mk s+s.1.2.1.1,s.2.2.2,(s.2.2.2.length:Int),(0:Int),())=some (.inr 2):=q2;rw[q2',obs,f0r,q0n (fun k:StaOk s=>q1 fun j x _ hx=>k.right j x hx)]
 rw[q0z h1,tfn,tfd];by_cases h2:s.2.2.1 = -1
 ·rw[q0z h2,tfd];by_cases h3:s.2.1<s.2.2.1
  ·have:=h1.1;omega
  ·rw[q0n h3];exact tail ⟨h1,.inl h2,by omega⟩
 ·rw[q0n h2,r0o,obs,tfn,tfd];by_cases h3:s0q s.2.2.1
  case neg=>rw[q0n h3,q0n (fun k:StaOk s=>by rcases k.clock.2.1 with q | q;exact h2 q;exact h3 q)]
  rw[q0z h3,tfd];by_cases h4:s.2.1<s.2.2.1
  ·rw[q0z h4,q0n (fun k:StaOk s=>by have:=k.clock.2.2;omega)]
  ·rw[q0n h4];exact tail ⟨h1,.inr h3,by omega⟩
theorem d2e (n:Nat) (l:List Ser) (hL:l.length<=1000000) (hm:∀x∈l,SerM x):∀(rest pre:List Ser) (f:Nat) (ix len:Int),l=pre++rest->ix=pre.length->len=l.length->rest.length<f ->
  j0p (n+2) f (l,len,ix,())=some (.inl ())\/j0p (n+2) f (l,len,ix,())=some (.inr 0):=by
 intro rest;induction rest with
 | nil =>
  intro pre f ix len hl hi hn hf;obtain ⟨f,rfl⟩:∃g,f=g+1:=⟨f-1,by simp at hf;omega⟩;left;rw[s0k];simp only[tfd,q0n (idxe hl hi hn)]
 | cons x rest ih =>
  intro pre f ix len hl hi hn hf;obtain ⟨f,rfl⟩:∃g,f=g+1:=⟨f-1,by simp at hf;omega⟩;have hx:SerM x:=hm x (by rw[hl];simp);rw[s0k];simp only[tfd,q0z (idx hl hi hn),c0e hl hi,obs,idxw hl hi (show l.length<=1000000000000 by omega)];rcases j2p n x hx.l with h | h
  ·rw[h];right;rfl
  ·rw[h];simp only[obs,q0n (show ¬((1:Int)=0) by decide)];exact ih (pre++[x]) f (ix+1) len (idxl hl) (idxs hi) hn (by simp at hf;omega)
theorem u1h (n:Nat) {s:Sta} (hw:StaW s):s0l (n+3) s=some 0\/(s0l (n+3) s=some 1/\s.2.2.2.length<=8):=by
 rw[u1i];simp only[tfd];by_cases h:(8:Int)<(s.2.2.2.length:Int)
 ·rw[q0z h];exact .inl rfl
 ·rw[q0n h];rcases d2e n s.2.2.2 (by omega) (fun x hx=>(hw.ser x hx).2) s.2.2.2 [] a0b 0 _ rfl rfl rfl (by unfold a0b;omega) with h1 | h1
  ·rw[h1];exact .inr ⟨rfl,by omega⟩
  ·rw[h1];exact .inl rfl
theorem ser_m' {s:Ser} (h:Wf a0x s):SerM s:=by
 obtain ⟨h1,h2,h3,⟨h4,h5,h6⟩,h7⟩:=h;have e1:=h1.1;have e3:=h3.2.2.1;have e4:=h4.1;have e5:=h5.1;have e6:=h6.1;simp only[maxLen] at e1 e3 e4 e5 e6;exact ⟨e1,e3,e4,e5,e6⟩
theorem sta_wf {s:Sta} (h:Wf a0j s):StaW s:=by
 obtain ⟨h1,h2,h3,h4⟩:=h;have e:=h4.1;simp only[maxLen] at e;exact ⟨e,fun x hx=>⟨ser_wf (h4.2 x hx),ser_m' (h4.2 x hx)⟩⟩
end Go.Proofs.YteopnkdnglpbfaaGreatDoor
namespace Go.Proofs.YteopnkdnglpbfaaGreatDoor
open Go.Flat Go.Plim
set_option linter.unusedVariables false
def z1z (c:Conf) (s:Trs) (o:Slo) (l:List Ev):Prop :=
 (l=[]/\o=s0/\∀t,FInv c s [] t)\/∃t,EndsAt l t/\FInv c s l t/\o=(t / c.2.1.1,cellOf (win c.2.1.1 l (t / c.2.1.1)))
theorem z1z.fold {c:Conf} {s:Trs} {o:Slo} {l:List Ev} (h:z1z c s o l):FoldOk c s:=by
 rcases h with ⟨_,_,h⟩ | ⟨t,_,h,_⟩
 ·exact (h 0).ok
 ·exact h.ok
def Turn (o:Slo) (i:Int):Prop:=0<o.2.1/\o.1≠i
end Go.Proofs.YteopnkdnglpbfaaGreatDoor
namespace Go.Proofs.YteopnkdnglpbfaaGreatDoor
open Go.Flat Go.Plim
set_option linter.unusedVariables false
set_option linter.unusedSimpArgs false
def rawOf (room:Int) (l:List Ev):Rw :=
 (if (l.length:Int)<=room then 0 else (l.length:Int)-room,(if (l.length:Int)<=room then 0 else ((l[l.length-room.toNat-1]?).getD e0).1,l.drop (l.length-room.toNat)))
structure SerInv (c:Conf) (s:Ser) (l:List Ev):Prop where
 lab:LabOk s.1
 len:l.length<=1000000
 raw:s.2.2.1=rawOf c.1 l
 opn:z1z c s.2.2.2.1 s.2.2.2.2 l
 last:(l=[]/\s.2.1 = -1)\/EndsAt l s.2.1
theorem SerInv.foll {c:Conf} {s:Ser} {l:List Ev} (h:SerInv c s l):Foll l:=by
 rcases h.last with ⟨rfl,_⟩ | h
 ·exact Foll.nil
 ·exact h.foll
theorem b1f {l:List Ev} {t:Int} (h:EndsAt l t):∃e,l.getLast? = some e/\e.1=t:=by
 obtain ⟨x,hx,hxt⟩:=h.last;rcases List.eq_nil_or_concat l with rfl | ⟨p,y,rfl⟩
 ·cases hx
 rw[List.concat_eq_append] at *
 have h1:=h.le y (by simp);refine ⟨y,by simp,?_⟩;rcases q2n.1 hx with q | q
 ·have:=(q0i.1 h.foll).2.2 x q y (by simp);omega
 ·simp at q;rw[<-q];exact hxt
theorem l2a {l:List Ev} {t u:Int} (h:EndsAt l t) (k:EndsAt l u):t=u:=by
 obtain ⟨e,h1,h2⟩:=b1f h;obtain ⟨e',k1,k2⟩:=b1f k;rw[h1] at k1;simp at k1;rw[<-h2,<-k2,k1]
theorem SerInv.at_ {c:Conf} {s:Ser} {l:List Ev} (h:SerInv c s l) (hl:l≠[]):EndsAt l s.2.1/\FInv c s.2.2.2.1 l s.2.1/\s.2.2.2.2=(s.2.1 / c.2.1.1,cellOf (win c.2.1.1 l (s.2.1 / c.2.1.1))):=by
 have he:=h.last.resolve_left fun k=>hl k.1
 rcases h.opn with k | ⟨t,k1,k2,k3⟩
 ·exact absurd k.1 hl
 ·have:=l2a he k1;subst this;exact ⟨he,k2,k3⟩
theorem f2p {a b:Int} (ha:1<=a) (hb:1<=b) (hm:b % a=0):0<b / a:=by
 rcases Int.lt_or_le 0 (b / a) with z | z
 ·exact z
 ·exfalso;have e:a*(b / a)=b:=by have:=Int.mul_ediv_add_emod b a;omega
  have:a*(b / a)<=a*0:=Int.mul_le_mul_of_nonneg_left z (by omega);omega
noncomputable def v0h (s:Sta) (l:List Lab):Option Nat:=s.2.2.2.findIdx? fun x=>decide (x.1=l/\LvX s x)
noncomputable def roomV (s:Sta):Option Nat:=s.2.2.2.findIdx? fun x=>decide (¬LvX s x)
theorem l1g {s:Sta} {l:List Lab} {i:Nat}:v0h s l=some i↔∃x,s.2.2.2[i]? = some x/\x.1=l/\LvX s x/\∀j,j<i->∀y,s.2.2.2[j]? = some y->¬(y.1=l/\LvX s y):=by
 unfold v0h;rw[List.findIdx?_eq_some_iff_getElem];constructor
 ·rintro ⟨h,h1,h2⟩;have h1:=of_decide_eq_true h1;refine ⟨_,q2b h,h1.1,h1.2,fun j hj y hy => ?_⟩;obtain ⟨hjl,e⟩:=q2p.1 hy;have:=h2 j hj;rw[e] at this
  simpa using this
 ·rintro ⟨x,hx,h1,h2,h3⟩;obtain ⟨hl,e⟩:=q2p.1 hx;refine ⟨hl,by rw[e];exact q2a ⟨h1,h2⟩,fun j hj => ?_⟩;have:=h3 j hj _ (q2b (by omega))
  simpa using this
theorem f2n {s:Sta} {l:List Lab}:v0h s l=none↔∀x∈s.2.2.2,¬(x.1=l/\LvX s x):=by
 unfold v0h;rw[List.findIdx?_eq_none_iff];simp
end Go.Proofs.YteopnkdnglpbfaaGreatDoor
namespace Go.Proofs.YteopnkdnglpbfaaGreatDoor
open Go.Flat
def rd (st:List UInt8×Bool) (k:Nat):Int×(List UInt8×Bool):=if st.2=true\/st.1.length<k then (0,([],true)) else (valI (bytesI (st.1.take k)),(st.1.drop k,false))
def q0 (s:List UInt8):=rd (s,false) 4
def q1 (s:List UInt8):=rd (q0 s).2 8
def q2 (s:List UInt8):=rd (q1 s).2 8
def q3 (s:List UInt8):=rd (q2 s).2 8
def q4 (s:List UInt8):=rd (q3 s).2 4
def q5 (s:List UInt8):=rd (q4 s).2 4
def q6 (s:List UInt8):=rd (q5 s).2 4
def q7 (s:List UInt8):=rd (q6 s).2 4
def q8 (s:List UInt8):=rd (q7 s).2 4
def q9 (s:List UInt8):=rd (q8 s).2 8
structure Full (s:List UInt8):Prop where
 z:(q9 s).1=0
 good:(q9 s).2.2=false
 left:(q9 s).2.1=[]
def idxC (c:Conf):Int:=prt c.2.2.2.2 120
def hom (c:Conf):Int:=1+idxC c+c.2.2.2.2
end Go.Proofs.YteopnkdnglpbfaaGreatDoor
namespace Go.Proofs.YteopnkdnglpbfaaGreatDoor
open Go.Flat
set_option linter.unusedVariables false
set_option linter.unusedSimpArgs false
end Go.Proofs.YteopnkdnglpbfaaGreatDoor
namespace Go.Proofs.YteopnkdnglpbfaaGreatDoor
open Go.Flat Go.Plim
set_option linter.unusedVariables false
set_option linter.unusedSimpArgs false
theorem el_get {l:List Ser} {k:Nat} (h:k<l.length):∃y,l[k]? = some y:=⟨l[k],q2b h⟩
noncomputable def u1x (s:Sta) (l:List Lab):Int×Int:=if Whole s then (match v0h s l with | some i=>((i:Int),0) | none=>(0,3)) else (0,2)
def IsF (s:Sta) (l:List Lab) (k:Nat):Prop:=∃y,s.2.2.2[k]? = some y/\y.1=l/\LvX s y
noncomputable instance (s l k):Decidable (IsF s l k):=Classical.propDecidable _
theorem l1f {s:Sta} {l:List Lab} {m:Nat} (h:IsF s l m) (hn:∀j,j<m->¬IsF s l j):v0h s l=some m:=by
 obtain ⟨y,h1,h2,h3⟩:=h;exact l1g.2 ⟨y,h1,h2,h3,fun j hj z hz k=>hn j hj ⟨z,hz,k.1,k.2⟩⟩
theorem k2o {s:Sta} {l:List Lab} (hn:∀j,j<s.2.2.2.length->¬IsF s l j):v0h s l=none:=by
 refine f2n.2 fun x hx k => ?_
 obtain ⟨i,hi,e⟩:=List.getElem_of_mem hx;exact hn i hi ⟨x,by rw[q2b hi,e],k.1,k.2⟩
theorem stt_find (n:Nat) {s:Sta} (hw:StaW s) (l:List Lab):m1h (n+10) s l=some (u1x s l):=by
 rw[w1k,h2d (n+5) s,obs,tfn,tfd];unfold u1x;by_cases h:Whole s
 case neg=>rw[q0n h,q0n h,q0n (show ¬((sta0,(2:Int)).2=0) by decide)]
 rw[q0z h,q0z h,q0z rfl];have his:∀k:Nat,k<s.2.2.2.length->(fun y1:Int×Unit=>f0y (n+9) y1.1 s l s) ((k:Int),())=some (decide (IsF s l k)):=by
  intro k hk;obtain ⟨y,hy⟩:=el_get hk;have hm:=(hw.at hy).2;show f0y (n+9) (k:Int) s l s=_;rw[m1g,v0p hy,obs,k1z (n+6) _ _ hm.l,obs,tfd,m1i (n+1) hy hm,obs];by_cases h1:y.1=l
  ·rw[q0z h1];refine congrArg some (q2r.2 ⟨fun k=>⟨y,hy,h1,k⟩,fun ⟨z,z1,z2,z3⟩ => ?_⟩);rw[hy] at z1;cases z1;exact z3
  ·rw[q0n h1,q1z (fun q:IsF s l k=>by obtain ⟨z,z1,z2,z3⟩:=q;rw[hy] at z1;cases z1;exact h1 z2)]
 rcases e1u (n+8) s (fun y1:Int×Unit=>f0y (n+9) y1.1 s l s) (fun k=>decide (IsF s l k)) (by have:=h.len;omega) his with ⟨m,q1,q2,q3,q4⟩ | ⟨q1,q2⟩
 ·rw[show (fun y1:Int×Unit=>f0y (n+9) y1.1 s l (s,(0:Int)).1)=fun y1:Int×Unit=>f0y (n+9) y1.1 s l s from rfl,q4,obs,tfd,q0n (by omega),l1f (of_decide_eq_true q2) (fun j hj=>of_decide_eq_false (q3 j hj))]
 ·rw[show (fun y1:Int×Unit=>f0y (n+9) y1.1 s l (s,(0:Int)).1)=fun y1:Int×Unit=>f0y (n+9) y1.1 s l s from rfl,q2,obs,tfd,q0z (by decide),k2o (fun j hj=>of_decide_eq_false (q1 j hj))]
theorem x1i (n:Nat) {s:Sta} (hw:StaW s) (hL:s.2.2.2.length<=1000000) (l:List Lab):∀(d k f:Nat),k+d=s.2.2.2.length->d<f ->
  (∃m:Nat,k<=m/\IsF s l m/\(∀j,k<=j->j<m->¬IsF s l j)/\e0e (n+6) f (l,s,s.2.2.2,(s.2.2.2.length:Int),(k:Int),())=some (.inr ((m:Int),0))) \/
  ((∀j,k<=j->j<s.2.2.2.length->¬IsF s l j)/\e0e (n+6) f (l,s,s.2.2.2,(s.2.2.2.length:Int),(k:Int),())=some (.inl ())):=by
 intro d;induction d with
 | zero =>
  intro k f hk hf;obtain ⟨f,rfl⟩:∃g,f=g+1:=⟨f-1,by omega⟩;refine .inr ⟨fun j h1 h2=>by omega,?_⟩;rw[u0d,q1z (by omega),tff]
 | succ d ih =>
  intro k f hk hf;obtain ⟨f,rfl⟩:∃g,f=g+1:=⟨f-1,by omega⟩;obtain ⟨y,hy⟩:=el_get (l:=s.2.2.2) (k:=k) (by omega);have hm:=(hw.at hy).2;have ih':=ih (k+1) f (by omega) (by omega);have next:¬IsF s l k->((∃m:Nat,k<=m/\IsF s l m/\(∀j,k<=j->j<m->¬IsF s l j)/\e0e (n+6) f (l,s,s.2.2.2,(s.2.2.2.length:Int),((k+1:Nat):Int),())=some (.inr ((m:Int),0))) \/
  ((∀j,k<=j->j<s.2.2.2.length->¬IsF s l j)/\e0e (n+6) f (l,s,s.2.2.2,(s.2.2.2.length:Int),((k+1:Nat):Int),())=some (.inl ()))):=by
   intro hn;have low:∀j,k<=j->¬k+1<=j->¬IsF s l j:=fun j h1 h2=>by rw[show j=k by omega];exact hn
   rcases ih' with ⟨m,h1,h2,h3,h4⟩ | ⟨h1,h2⟩
   ·exact .inl ⟨m,by omega,h2,fun j q1 q2=>if z:k+1<=j then h3 j z q2 else low j q1 z,h4⟩
   ·exact .inr ⟨fun j q1 q2=>if z:k+1<=j then h1 j z q2 else low j q1 z,h2⟩
  rw[u0d,q2a (by omega),tft,v0p hy,obs,p0s n hy hm,obs,tfd,v0m (n+5) _ _ hm.l,obs,tfd,w64 (by omega) (by omega),show ((k:Int)+1)=((k+1:Nat):Int) by omega];by_cases h1:LvX s y
  case neg=>rw[q0n h1];exact next (fun q=>by obtain ⟨z,z1,z2,z3⟩:=q;rw[hy] at z1;cases z1;exact h1 z3)
  rw[q0z h1];by_cases h2:y.1=l
  case neg=>rw[q0n h2];exact next (fun q=>by obtain ⟨z,z1,z2,z3⟩:=q;rw[hy] at z1;cases z1;exact h2 z2)
  rw[q0z h2];exact .inl ⟨k,q2e _,⟨y,hy,h2,h1⟩,fun j q1 q2=>by omega,rfl⟩
theorem r17_find (n:Nat) {s:Sta} (hw:StaW s) (l:List Lab):n1q (n+7) s l=some (u1x s l):=by
 rw[x1k,p0r (n+2) s,obs,tfn,tfd];unfold u1x;by_cases h:Whole s
 case neg=>rw[q0n h,q0n h]
 rw[q0z h,q0z h];have hL:=h.len;rcases x1i n hw (by omega) l s.2.2.2.length 0 a0b (by omega) (by unfold a0b;omega) with ⟨m,q1,q2,q3,q4⟩ | ⟨q1,q2⟩
 ·have q4':e0e (n+6) a0b (l,s,s.2.2.2,(s.2.2.2.length:Int),(0:Int),())=some (.inr ((m:Int),0)):=q4;rw[q4',obs,f0r,l1f q2 (fun j hj=>q3 j (by omega) hj)]
 ·have q2':e0e (n+6) a0b (l,s,s.2.2.2,(s.2.2.2.length:Int),(0:Int),())=some (.inl ()):=q2;rw[q2',obs,a0t,k2o (fun j hj=>q1 j (by omega) hj)]
theorem y1c (n:Nat) (a:List Int) (hL:a.length<=1000000):∀(rest pre:List Int) (f:Nat) (ix len:Int),a=pre++rest->ix=pre.length->len=a.length->rest.length<f->p0x n f (a,a,len,ix,())=some (.inl ()):=by
 intro rest;induction rest with
 | nil =>
  intro pre f ix len hl hi hn hf;obtain ⟨f,rfl⟩:∃g,f=g+1:=⟨f-1,by simp at hf;omega⟩;rw[u0g];simp only[tfd,q0n (idxe hl hi hn)]
 | cons x rest ih =>
  intro pre f ix len hl hi hn hf;obtain ⟨f,rfl⟩:∃g,f=g+1:=⟨f-1,by simp at hf;omega⟩;rw[u0g];simp only[tfd,q0z (idx hl hi hn),c0e hl hi,obs,decide_true,q2s,tff,idxw hl hi (show a.length<=1000000000000 by omega)];exact ih (pre++[x]) f (ix+1) len (idxl hl) (idxs hi) hn (by simp at hf;omega)
theorem p0w (n:Nat) (a:List Int) (hL:a.length<=1000000):i0z (n+1) a a=some true:=by
 rw[y1d];simp only[decide_true,q2s,tff,y1c n a hL a [] a0b 0 _ rfl rfl rfl (by unfold a0b;omega),obs,a0t]
structure Goes (s:Sta) (l:List Lab) (e:Ev):Prop where
 st:StaOk s
 lab:LabOk l
 ev:EvOk e
 lo:mk s<=e.1
 hi:e.1<mk s+s.1.2.1.1
inductive PlaceAt (s:Sta) (l:List Lab) (e:Ev):Nat->Ser->Bool->Prop
 | found {i:Nat} {x:Ser} (hf:v0h s l=some i) (hx:s.2.2.2[i]? = some x) (hl:x.1=l) (hlv:LvX s x) (ht:x.2.1<e.1):PlaceAt s l e i x false
 | room {i:Nat} (hf:v0h s l=none) (hs:e.2.2.2=false) (hr:roomV s=some i):PlaceAt s l e i (l,(-1,(r0w,(emp s.1,s0)))) true
theorem l1h {s:Sta} (h:Whole s) {l:List Lab} {i:Nat} (hf:v0h s l=some i):u1x s l=((i:Int),0):=by
 unfold u1x;rw[q0z h,hf]
theorem l1i {s:Sta} (h:Whole s) {l:List Lab} (hf:v0h s l=none):u1x s l=(0,3):=by
 unfold u1x;rw[q0z h,hf]
def e0r (c:Conf) (k:Int):Int:=if k=0 then c.2.1.1 else if k=1 then c.2.1.2.1 else c.2.1.2.2
def tierN (c:Conf) (k:Int):Int:=if k=0 then c.2.2.1.1 else if k=1 then c.2.2.1.2.1 else c.2.2.1.2.2
noncomputable def f2h (s:Sta) (k:Int):Int×(Int×Int) :=
 if StaOk s then (if k<0\/2<k then (0,(0,1)) else ((oldV s.2.1 (e0r s.1 k) (tierN s.1 k)).1,(s.2.1 / e0r s.1 k,0))) else (0,(0,2))
theorem o1o {now w m:Int} (h:OfP now w) (hm:1<=m/\m<=4096):(oldV now w m).2=0:=by
 unfold oldV;rw[q0z ⟨h,hm.1,hm.2⟩]
theorem p1u (n:Nat) {s:Sta} (hw:StaW s) (k:Int):y0j (n+16) s k=some (f2h s k):=by
 rw[z1t,v1e,r0b n hw];unfold f2h;by_cases h:StaOk s
 case neg=>rw[q0n h,q0n h];rfl
 rw[q0z h,q0z h];have hr:=h.whole.1.rng;have ht:=h.clock.1;simp only[obs,decide_true,q2s,tff,tfd,tfn,q1p (n+11)];by_cases h1:k<0
 ·rw[q0z h1,q0z (Or.inl h1)];rfl
 rw[q0n h1];by_cases h2:3<=k
 ·rw[q0z h2,q0z (show k<0\/2<k by omega)];rfl
 rw[q0n h2,q0n (show ¬(k<0\/2<k) by omega)];simp only[obs,if_true];have q0:=h0y ht hr.w0.1;have q1:=h0y ht hr.w1.1;have q2:=h0y ht hr.w2.1;rcases (by omega:k=0\/k=1\/k=2) with e | e | e
 ·subst e;simp only[if_true,q0n (nz hr.w0.1),q0,o1o ⟨ht.1,ht.2,hr.w0.1,hr.w0.2⟩ hr.n0];rfl
 ·subst e;simp only[if_true,q0n (show ¬((1:Int)=0) by decide),q0n (nz hr.w1.1),q1,o1o ⟨ht.1,ht.2,hr.w1.1,hr.w1.2⟩ hr.n1];rfl
 ·subst e;simp only[if_true,q0n (show ¬((2:Int)=0) by decide),q0n (show ¬((2:Int)=1) by decide),q0n (nz hr.w2.1),q2,o1o ⟨ht.1,ht.2,hr.w2.1,hr.w2.2⟩ hr.n2];rfl
theorem j2a {now w:Int} (h:OfP now w):(if OfP now w then (now / w,(0:Int)) else (0,1))=(now / w,0):=q0z h
theorem n1p (n:Nat) {s:Sta} (hw:StaW s) (k:Int):w0r (n+10) s k=some (f2h s k):=by
 rw[x1g,l0s n hw];unfold f2h;by_cases h:StaOk s
 case neg=>rw[q0n h,q0n h];rfl
 rw[q0z h,q0z h];have hr:=h.whole.1.rng;have ht:=h.clock.1;simp only[obs,decide_true,q2s,tff,tfd,tfn,if_true,k1p (n+6),s1s (n+7)];by_cases h1:k<0
 ·rw[q0z h1,q0z (show k<0\/2<k from .inl h1)]
 rw[q0n h1];by_cases h2:2<k
 ·rw[q0z h2,q0z (show k<0\/2<k from .inr h2)]
 rw[q0n h2,q0n (show ¬(k<0\/2<k) by omega)];have q0:=j2a (now:=s.2.1) ⟨ht.1,ht.2,hr.w0.1,hr.w0.2⟩;have q1:=j2a (now:=s.2.1) ⟨ht.1,ht.2,hr.w1.1,hr.w1.2⟩;have q2:=j2a (now:=s.2.1) ⟨ht.1,ht.2,hr.w2.1,hr.w2.2⟩;rcases (by omega:k=0\/k=1\/k=2) with e | e | e
 ·subst e;simp only[if_true,q0];rfl
 ·subst e;simp only[if_true,q0n (show ¬((1:Int)=0) by decide),q1];rfl
 ·subst e;simp only[if_true,q0n (show ¬((2:Int)=0) by decide),q0n (show ¬((2:Int)=1) by decide),q2];rfl
theorem x0w {a b:Cel} (ha:c0g a) (hb:c0g b) (h:Ahead a b):mrgE a b=(mrg a b,0):=by
 unfold mrgE;rw[q0z ⟨ha,hb⟩,q0z h]
theorem m2c {w:Int}:∀(L:List Slo) (c:Cel) (lo hi:Int),Up L->(∀s∈L,FitsP s.2 w s.1/\lo<=s.1/\s.1<hi)->c0g c->(c=z0\/c.2.2.1.1 / w<lo)->lo<=hi->(allE c (L.map (·.2))).1=z0\/(allE c (L.map (·.2))).1.2.2.1.1 / w<hi:=by
 intro L;induction L with
 | nil=>intro c lo hi _ _ _ h hle;rcases h with h | h;exact .inl h;exact .inr (by simp only[List.map_nil,allE];omega)
 | cons s L ih =>
  intro c lo hi hu hs hc hl hle;unfold Up at hu;rw[List.pairwise_cons] at hu;obtain ⟨hf,h1,h2⟩:=hs s (by simp);have ha:Ahead c s.2:=by
   rcases hl with h | h
   ·exact .inl h
   ·refine .inr (.inr ?_);have e:=hf.f;rcases Int.lt_or_le c.2.2.1.1 s.2.2.1.1 with q | q
    ·exact q
    ·have:=Int.ediv_le_ediv (c:=w) (by have:=hf.w0;omega) q;omega
  simp only[q3h,allE];rw[x0w hc hf.n.ok ha,q0z rfl];refine ih _ (s.1+1) hi hu.2 (fun x hx=>⟨(hs x (by simp[hx])).1,by have:=hu.1 x hx;omega,(hs x (by simp[hx])).2.2⟩) (u1b hc hf.n.ok ha) (.inr ?_) (by omega);have el:(mrg c s.2).2.2.1.1=s.2.2.2.1.1:=by
   unfold mrg;by_cases k:c=z0
   ·rw[q0z k]
   ·rw[q0n k,q0n hf.n.ne]
  rw[el,hf.l];omega
theorem j1z {t:List Slo} {w i j a:Int} (h:TierOk t w) (hb:b0i t a) (h0:0<=i) (ha:i<=a):c0g (g0m t i j).1/\((g0m t i j).1=z0\/(g0m t i j).1.2.2.1.1 / w<a):=by
 refine ⟨w0a _ _ _,?_⟩;unfold g0m;split
 ·exact .inl rfl
 ·unfold within;have hn:=(h0d h a).1 hb;refine m2c (w:=w) _ z0 i a ((m1f h).filter _) (fun s hs => ?_) x0t (.inl rfl) ha;obtain ⟨s1,s2⟩:=q3l.1 hs;have s2:=of_decide_eq_true s2;exact ⟨(l0i h s1).1,s2.1,hn s s1⟩
theorem c2i {a b:Cel} {w k:Int} (hw:1<=w) (ha:a=z0\/a.2.2.1.1 / w<k) (hb:b=z0\/b.2.1.1 / w=k):Ahead a b:=by
 rcases ha with ha | ha
 ·exact .inl ha
 rcases hb with hb | hb
 ·exact .inr (.inl hb)
 refine .inr (.inr ?_);rcases Int.lt_or_le a.2.2.1.1 b.2.1.1 with q | q
 ·exact q
 ·have:=Int.ediv_le_ediv (c:=w) (by omega) q;omega
theorem g2f {w:Int}:∀(L:List Slo) (c:Cel) (lo:Int),Up L->(∀s∈L,FitsP s.2 w s.1/\lo<=s.1)->c0g c->(c=z0\/c.2.2.1.1 / w<lo)->∀b:Int,(c=z0\/b<=c.2.1.1 / w)->b<=lo->(allE c (L.map (·.2))).1=z0\/b<=(allE c (L.map (·.2))).1.2.1.1 / w:=by
 intro L;induction L with
 | nil=>intro c lo _ _ _ _ b hb _;exact hb
 | cons s L ih =>
  intro c lo hu hs hc hl b hb hbl;unfold Up at hu;rw[List.pairwise_cons] at hu;obtain ⟨hf,h1⟩:=hs s (by simp);have ha:Ahead c s.2:=by
   rcases hl with h | h
   ·exact .inl h
   ·refine .inr (.inr ?_);have e:=hf.f;rcases Int.lt_or_le c.2.2.1.1 s.2.2.1.1 with q | q
    ·exact q
    ·have:=Int.ediv_le_ediv (c:=w) (by have:=hf.w0;omega) q;omega
  simp only[q3h,allE];rw[x0w hc hf.n.ok ha,q0z rfl];refine ih _ (s.1+1) hu.2 (fun x hx=>⟨(hs x (by simp[hx])).1,by have:=hu.1 x hx;omega⟩) (u1b hc hf.n.ok ha) (.inr ?_) b ?_ (by omega)
  ·have el:(mrg c s.2).2.2.1.1=s.2.2.2.1.1:=by
    unfold mrg;by_cases k:c=z0
    ·rw[q0z k]
    ·rw[q0n k,q0n hf.n.ne]
   rw[el,hf.l];omega
  ·unfold mrg;by_cases k:c=z0
   ·rw[q0z k,hf.f];exact .inr (by omega)
   ·rw[q0n k,q0n hf.n.ne];rcases hb with hb | hb
    ·exact absurd hb k
    ·exact .inr hb
theorem w1f {t:List Slo} {w i j:Int} (h:TierOk t w) (h0:0<=i):(g0m t i j).1=z0\/i<=(g0m t i j).1.2.1.1 / w:=by
 unfold g0m;split
 ·exact .inl rfl
 ·unfold within;refine g2f (w:=w) _ z0 i ((m1f h).filter _) (fun s hs => ?_) x0t (.inl rfl) i (.inl rfl) (Int.le_refl _);obtain ⟨s1,s2⟩:=q3l.1 hs;have s2:=of_decide_eq_true s2;exact ⟨(l0i h s1).1,s2.1⟩
theorem now_up {t:List Slo} {a b T:Int} {cur:Cel} (h:TierOk t a) (hb:b0i t (T / a)) (ha:1<=a) (hb1:1<=b) (hm:b % a=0) (hT:0<=T) (hc:CellN cur) (hf:cur.2.1.1 / a=T / a) :
  ∃m,mrgE (g0m t (T / b*(b / a)) (T / a)).1 cur=(m,0)/\CellN m/\m.2.1.1 / b=T / b:=by
 have hp:=f2p ha hb1 hm;have q:=(edvm (t:=T) ha hb1 hm).2;have hT':0<=T / b:=Int.ediv_nonneg hT (by omega);have u0:T / b*(b / a)<=T / a:=by rw[<-q];exact Int.ediv_mul_le _ (by omega)
 have p0:0<=T / b*(b / a):=Int.mul_nonneg hT' (by omega);obtain ⟨k1,k2⟩:=j1z (j:=T / a) h hb p0 u0;have k3:=w1f (j:=T / a) h p0;have hah:=c2i ha k2 (.inr hf);refine ⟨_,x0w k1 hc.ok hah,?_,?_⟩
 ·rcases k1 with z | z
  ·rw[z,q1j];exact hc
  ·rcases hah with y | y | y
   ·rw[y,q1j];exact hc
   ·exact absurd y hc.ne
   ·exact mrg_N z hc y
 ·unfold mrg;by_cases z:(g0m t (T / b*(b / a)) (T / a)).1=z0
  ·rw[q0z z,<-(edvm (t:=cur.2.1.1) ha hb1 hm).2,hf,q]
  ·rw[q0n z,q0n hc.ne];have z1:=k2.resolve_left z;have z2:=k3.resolve_left z;have z3:=(k1.n z).ft;have z4:(g0m t (T / b*(b / a)) (T / a)).1.2.1.1 / a<=(g0m t (T / b*(b / a)) (T / a)).1.2.2.1.1 / a:=Int.ediv_le_ediv (by omega) z3;rw[<-(edvm (t:=(g0m t (T / b*(b / a)) (T / a)).1.2.1.1) ha hb1 hm).2];have z5:(g0m t (T / b*(b / a)) (T / a)).1.2.1.1 / a / (b / a)<=T / a / (b / a):=Int.ediv_le_ediv (by omega) (by omega);have z6:T / b<=(g0m t (T / b*(b / a)) (T / a)).1.2.1.1 / a / (b / a):=by rw[Int.le_ediv_iff_mul_le hp];exact z2
   omega
theorem z0e {t:List Slo} {w T i j:Int} {cur:Cel} {ok:Prop} [Decidable ok] (hok:ok) (h:TierOk t w) (hb:T = -1\/b0i t (T / w)/\CellN cur/\cur.2.1.1 / w=T / w) (h0:0<=i) (hij:i<=j):(d0f ok i j T w t (cur,0)).2=0:=by
 unfold d0f;rw[q0z hok,q0n (by omega),q0n (by omega)];by_cases h1:T = -1
 ·rw[q0z h1]
 rw[q0n h1];obtain ⟨hb,hc,hf⟩:=hb.resolve_left h1;by_cases h2:T / w<i
 ·rw[q0z h2];exact d0u h h0 hij
 rw[q0n h2];by_cases h3:j<=T / w
 ·rw[q0z h3];exact d0u h h0 hij
 rw[q0n h3,q0n (nn rfl)];obtain ⟨k1,k2⟩:=j1z (j:=j) h hb h0 (by omega:i<=T / w);rw[x0w k1 hc.ok (c2i h.w0 k2 (.inr hf))]
structure Ends3 (c:Conf) (s:Ser):Prop where
 t0:s.2.1 = -1\/b0i s.2.2.2.1.1 (s.2.1 / c.2.1.1)/\CellN s.2.2.2.2.2/\s.2.2.2.2.2.2.1.1 / c.2.1.1=s.2.1 / c.2.1.1
 t1:s.2.1 = -1\/∃m,now1 c s=(m,0)/\b0i s.2.2.2.1.2.1 (s.2.1 / c.2.1.2.1)/\CellN m/\m.2.1.1 / c.2.1.2.1=s.2.1 / c.2.1.2.1
 t2:s.2.1 = -1\/∃m,now2 c s=(m,0)/\b0i s.2.2.2.1.2.2 (s.2.1 / c.2.1.2.2)/\CellN m/\m.2.1.1 / c.2.1.2.2=s.2.1 / c.2.1.2.2
theorem w1t {c:Conf} {s:Ser} (h:SerOk c s):Ends3 c s:=by
 have hr:=h.fold.cok.rng;by_cases hn:s.2.1 = -1
 ·exact ⟨.inl hn,.inl hn,.inl hn⟩
 have ht:=g0q h hn;obtain ⟨he,_⟩:=n0w h hn;have hf:s.2.2.2.2.2.2.1.1 / c.2.1.1=s.2.1 / c.2.1.1:=by
  rw[he.fit.f,<-he.fit.l,he.ol]
 obtain ⟨m1,a1,a2,a3⟩:=now_up h.fold.t0 he.b0 hr.w0.1 hr.w1.1 h.fold.cok.m1 ht.1 he.fit.n hf;obtain ⟨m2,b1,b2,b3⟩:=now_up h.fold.t1 he.b1 hr.w1.1 hr.w2.1 h.fold.cok.m2 ht.1 a2 a3;have e1:now1 c s=(m1,0):=a1;refine ⟨.inr ⟨he.b0,he.fit.n,hf⟩,.inr ⟨m1,e1,he.b1,a2,a3⟩,.inr ⟨m2,?_,he.b2,b2,b3⟩⟩;unfold now2;rw[e1,q0n (nn rfl)];exact b1
noncomputable def r0j (c:Conf) (s:Ser) (k i j:Int):Cel×Int :=
 if k=0 then d0f (SerOk c s) i j s.2.1 c.2.1.1 s.2.2.2.1.1 (s.2.2.2.2.2,0)
 else if k=1 then d0f (SerOk c s) i j s.2.1 c.2.1.2.1 s.2.2.2.1.2.1 (now1 c s)
 else d0f (SerOk c s) i j s.2.1 c.2.1.2.2 s.2.2.2.1.2.2 (now2 c s)
theorem d1o {c:Conf} {s:Ser} (h:SerOk c s) (k:Int) {i j:Int} (h0:0<=i) (hij:i<=j):(r0j c s k i j).2=0:=by
 have he:=w1t h;unfold r0j;split
 ·exact z0e h h.fold.t0 he.t0 h0 hij
 split
 ·by_cases hn:s.2.1 = -1
  ·unfold d0f;rw[q0z h,q0n (by omega),q0n (by omega),q0z hn]
  ·obtain ⟨m,e,k1,k2,k3⟩:=he.t1.resolve_left hn;rw[e];exact z0e h h.fold.t1 (.inr ⟨k1,k2,k3⟩) h0 hij
 ·by_cases hn:s.2.1 = -1
  ·unfold d0f;rw[q0z h,q0n (by omega),q0n (by omega),q0z hn]
  ·obtain ⟨m,e,k1,k2,k3⟩:=he.t2.resolve_left hn;rw[e];exact z0e h h.fold.t2 (.inr ⟨k1,k2,k3⟩) h0 hij
theorem live_ok {s:Sta} (h:StaOk s) {x:Ser} (hx:x∈s.2.2.2) (hl:LvX s x):SerOk s.1 x/\0<=x.2.1:=by
 obtain ⟨i,hi,e⟩:=List.getElem_of_mem hx;rcases h.right i x (by rw[q2b hi,e]) with k | k
 ·exact absurd k hl.1
 ·exact ⟨k.1,k.2.1⟩
theorem r02_rate (n:Nat) {a:Wd} (ha:WdOk a) {ms:Int} (hm:0<=ms/\ms<=18446744073709551615):n1y (n+7) a ms=some (n1h a ms):=by
 rw[y1i,tfd];unfold n1h;by_cases h0:ms=0
 ·rw[q0z h0,q0z h0]
 rw[q0n h0,q0n h0,t1c (n+3) ha 1000 (by omega),obs];unfold t0v;by_cases h:wv a*1000<340282366920938463463374607431768211456
 ·obtain ⟨p1,p2,p3,p4⟩:=k1o ha hm h;rw[q0z h,q0z h];simp only[decide_true,q2s,tff];rw[p1,p3,e2g n p2 p4,obs]
 ·rw[q0n h,q0n h];rfl
section
variable {del:Ev×Unit->Option Bool} {p:Ev->Bool} {L:List Ev} (hd:∀x∈L,del (x,())=some (p x))
include hd
end
def WidP (w:Int):Prop:=1<=w/\w<=1099511627776
instance (w:Int):Decidable (WidP w):=by unfold WidP;infer_instance
def RngP (a b:Int):Prop:=0<=a/\b<=35184372088832/\a<b
instance (a b:Int):Decidable (RngP a b):=by unfold RngP;infer_instance
def k0g (a b w:Int):Int×(Int×Int):=if WidP w/\RngP a b then (if a % w=0/\b % w=0 then (a / w,(b / w,0)) else (0,(0,10))) else (0,(0,1))
theorem r1n {w:Int} (a b:Int) (hw:WidP w) :
  (tif (decide (a<(0:Int))) (some ((0:Int),((0:Int),(1:Int)))) (
  tif (decide ((35184372088832:Int)<b)) (some ((0:Int),((0:Int),(1:Int)))) (
  tif (decide (b<=a)) (some ((0:Int),((0:Int),(1:Int)))) (
  tif (decide (w=(0:Int))) none (
  tif (!(decide ((Int.tmod a w)=(0:Int)))) (some ((0:Int),((0:Int),(10:Int)))) (
  tif (decide (w=(0:Int))) none (
  tif (!(decide ((Int.tmod b w)=(0:Int)))) (some ((0:Int),((0:Int),(10:Int)))) (
  tif (decide (w=(0:Int))) none (
  tif (decide (w=(0:Int))) none (
  some ((wrap .i64 (Int.tdiv a w)),((wrap .i64 (Int.tdiv b w)),(0:Int)))))))))))))=some (k0g a b w):=by
 obtain ⟨w1,w2⟩:=hw;unfold k0g;simp only[tfd,tfn];by_cases h:RngP a b
 ·obtain ⟨h1,h2,h3⟩:=h;have qa:0<=a / w/\a / w<=a:=⟨Int.ediv_nonneg h1 (by omega),Int.ediv_le_self _ h1⟩;have qb:0<=b / w/\b / w<=b:=⟨Int.ediv_nonneg (by omega) (by omega),Int.ediv_le_self _ (by omega)⟩;rw[q0n (by omega),q0n (by omega),q0n (by omega),q0n (by omega),q0z (show WidP w/\RngP a b from ⟨⟨w1,w2⟩,h1,h2,h3⟩),e0w h1,e0w (show 0<=b by omega),i0k h1,i0k (show 0<=b by omega),w64 (by omega) (by omega),w64 (by omega) (by omega)];by_cases ha:a % w=0
  ·rw[q0z ha,q0n (by omega)];by_cases hb:b % w=0
   ·rw[q0z hb,q0n (by omega),q0n (by omega),q0z ⟨ha,hb⟩]
   ·rw[q0n hb,q0n (fun k=>hb k.2)]
  ·rw[q0n ha,q0n (fun k=>ha k.1)]
 ·rw[q0n (show ¬(WidP w/\RngP a b) from fun k=>h k.2)];by_cases h1:a<0
  ·rw[q0z h1]
  rw[q0n h1];by_cases h2:35184372088832<b
  ·rw[q0z h2]
  rw[q0n h2,q0z (by unfold RngP at h;omega)]
theorem y0s (n:Nat) (a b w:Int):h0f (n+3) a b w=some (k0g a b w):=by
 rw[c2o,c1s,wi_in,obs,obs,tfn,tfd];by_cases h:WidP w
 ·rw[q0z (show 1<=w/\w<=1099511627776 from h)];exact r1n a b h
 ·rw[q0n (show ¬(1<=w/\w<=1099511627776) from h)];unfold k0g;rw[q0n (fun k=>h k.1)]
theorem t0e (n:Nat) (a b w:Int):f0m (n+2) a b w=some (k0g a b w):=by
 rw[x1x,a1v];by_cases h:WidP w
 ·rw[q2a h.1,tft,q2a h.2,obs,q2s,tff];exact r1n a b h
 ·have e:(tif (decide ((1:Int)<=w)) (some (decide (w<=(1099511627776:Int)))) (some false))=some false:=by
   rw[tfd];split
   ·rw[q1z (fun k=>h ⟨by assumption,k⟩)]
   ·rfl
  rw[e,obs,q3c,tft];unfold k0g;rw[q0n (fun k=>h k.1)]
noncomputable def oneV (s:Sta) (k a b:Int):Int :=
 if (k0g a b (e0r s.1 k)).2.2=0 then (if (k0g a b (e0r s.1 k)).1<(oldV s.2.1 (e0r s.1 k) (tierN s.1 k)).1 then 11 else 0) else (k0g a b (e0r s.1 k)).2.2
theorem j2v {s:Sta} (h:StaOk s) {k:Int} (h0:0<=k) (h2:k<=2):f2h s k=((oldV s.2.1 (e0r s.1 k) (tierN s.1 k)).1,(s.2.1 / e0r s.1 k,0)):=by
 unfold f2h;rw[q0z h,q0n (by omega)]
theorem tier3 {t:Int} (h1:1<=t) (h3:t<=3):wrap .i64 (t-1)=t-1:=w64 (by omega) (by omega)
theorem x0n (n:Nat) {s:Sta} (hw:StaW s) (h:StaOk s) {t:Int} (h1:1<=t) (h3:t<=3) (a b:Int):x0o (n+17) s t a b=some (oneV s (t-1) a b):=by
 rw[t1h,tier3 h1 h3];have hk:=j2v h (k:=t-1) (by omega) (by omega);unfold oneV;rcases (by omega:t=1\/t=2\/t=3) with e | e | e<;>subst e
 ·rw[show ((1:Int)-1)=0 from rfl] at hk ⊢;rw[q2a (show (0:Int)=0 from rfl),tft]
  change a0a (h0f _ a b (e0r s.1 0)) _=_
  rw[y0s (n+13),obs,tfn,tfd,p1u n hw 0,hk,obs];by_cases hs:(k0g a b (e0r s.1 0)).2.2=0
  ·rw[q0z hs,q0z hs,q2a rfl,tft,tfd];split<;>rfl
  ·rw[q0n hs,q0n hs]
 ·rw[show ((2:Int)-1)=1 from rfl] at hk ⊢;rw[q1z (show ¬((1:Int)=0) by decide),tff];rw[q2a (show (1:Int)=1 from rfl),tft]
  change a0a (h0f _ a b (e0r s.1 1)) _=_
  rw[y0s (n+13),obs,tfn,tfd,p1u n hw 1,hk,obs];by_cases hs:(k0g a b (e0r s.1 1)).2.2=0
  ·rw[q0z hs,q0z hs,q2a rfl,tft,tfd];split<;>rfl
  ·rw[q0n hs,q0n hs]
 ·rw[show ((3:Int)-1)=2 from rfl] at hk ⊢;rw[q1z (show ¬((2:Int)=0) by decide),tff];rw[q1z (show ¬((2:Int)=1) by decide),tff];rw[q2a (show (2:Int)=2 from rfl),tft]
  change a0a (h0f _ a b (e0r s.1 2)) _=_
  rw[y0s (n+13),obs,tfn,tfd,p1u n hw 2,hk,obs];by_cases hs:(k0g a b (e0r s.1 2)).2.2=0
  ·rw[q0z hs,q0z hs,q2a rfl,tft,tfd];split<;>rfl
  ·rw[q0n hs,q0n hs]
theorem d1q (n:Nat) {s:Sta} (hw:StaW s) (h:StaOk s) {t:Int} (h1:1<=t) (h3:t<=3) (a b:Int):n1n (n+11) s t a b=some (oneV s (t-1) a b):=by
 rw[d2t,tier3 h1 h3];have hk:=j2v h (k:=t-1) (by omega) (by omega);unfold oneV;rcases (by omega:t=1\/t=2\/t=3) with e | e | e<;>subst e
 ·rw[show ((1:Int)-1)=0 from rfl] at hk ⊢;rw[q2a (show (0:Int)=0 from rfl),tft]
  change a0a (f0m _ a b (e0r s.1 0)) _=_
  rw[t0e (n+8),obs,tfn,tfd,n1p n hw 0,hk,obs];by_cases hs:(k0g a b (e0r s.1 0)).2.2=0
  ·rw[q0z hs,q0z hs,tfd];split<;>rfl
  ·rw[q0n hs,q0n hs]
 ·rw[show ((2:Int)-1)=1 from rfl] at hk ⊢;rw[q1z (show ¬((1:Int)=0) by decide),tff];rw[q2a (show (1:Int)=1 from rfl),tft]
  change a0a (f0m _ a b (e0r s.1 1)) _=_
  rw[t0e (n+8),obs,tfn,tfd,n1p n hw 1,hk,obs];by_cases hs:(k0g a b (e0r s.1 1)).2.2=0
  ·rw[q0z hs,q0z hs,tfd];split<;>rfl
  ·rw[q0n hs,q0n hs]
 ·rw[show ((3:Int)-1)=2 from rfl] at hk ⊢;rw[q1z (show ¬((2:Int)=0) by decide),tff];rw[q1z (show ¬((2:Int)=1) by decide),tff];rw[q2a (show (2:Int)=2 from rfl),tft]
  change a0a (f0m _ a b (e0r s.1 2)) _=_
  rw[t0e (n+8),obs,tfn,tfd,n1p n hw 2,hk,obs];by_cases hs:(k0g a b (e0r s.1 2)).2.2=0
  ·rw[q0z hs,q0z hs,tfd];split<;>rfl
  ·rw[q0n hs,q0n hs]
theorem span_why (a b w:Int):(k0g a b w).2.2=0\/(k0g a b w).2.2=1\/(k0g a b w).2.2=10:=by
 unfold k0g;split
 ·split
  ·exact .inl rfl
  ·exact .inr (.inr rfl)
 ·exact .inr (.inl rfl)
theorem y1z (s:Sta) (k a b:Int):oneV s k a b=0\/oneV s k a b=1\/oneV s k a b=10\/oneV s k a b=11:=by
 unfold oneV;rcases span_why a b (e0r s.1 k) with h | h | h<;>rw[h]
 ·rw[q0z rfl];split
  ·exact .inr (.inr (.inr rfl))
  ·exact .inl rfl
 ·exact .inr (.inl rfl)
 ·exact .inr (.inr (.inl rfl))
noncomputable def c0l (s:Sta) (a b:Int):Nat->Int->Int->Int×Int
 | 0,_,why=>(0,why)
 | d+1,t,why=>if oneV s (t-1) a b=0 then (t,0) else if oneV s (t-1) a b=1 then (0,1) else c0l s a b d (t+1) (if oneV s (t-1) a b=11 then 11 else why)
theorem v1y {s:Sta} {a b t:Int} (e:oneV s (t-1) a b=0) (d:Nat) (why:Int):c0l s a b (d+1) t why=(t,0):=by
 conv=>lhs;unfold c0l
 rw[q0z e]
theorem v1x {s:Sta} {a b t:Int} (e:oneV s (t-1) a b=1) (d:Nat) (why:Int):c0l s a b (d+1) t why=(0,1):=by
 conv=>lhs;unfold c0l
 rw[q0n (by omega),q0z e]
theorem l1x {s:Sta} {a b t:Int} (e:oneV s (t-1) a b=10) (d:Nat) (why:Int):c0l s a b (d+1) t why=c0l s a b d (t+1) why:=by
 conv=>lhs;unfold c0l
 rw[q0n (by omega),q0n (by omega),q0n (by omega)]
theorem l1w {s:Sta} {a b t:Int} (e:oneV s (t-1) a b=11) (d:Nat) (why:Int):c0l s a b (d+1) t why=c0l s a b d (t+1) 11:=by
 conv=>lhs;unfold c0l
 rw[q0n (by omega),q0n (by omega),q0z e]
theorem g1g (n:Nat) {s:Sta} (hw:StaW s) (h:StaOk s) (a b:Int):∀(d f:Nat) (t why:Int),1<=t->t+d=4->d<f ->
  d0b (n+17) f (a,b,s,why,t,())=some (if (c0l s a b d t why).2=0 then .inr (c0l s a b d t why) else if (c0l s a b d t why).2=1 then .inr (c0l s a b d t why) else .inl ((c0l s a b d t why).2,()))\/(why≠10/\why≠11):=by
 intro d;induction d with
 | zero =>
  intro f t why h1 ht hf;obtain ⟨f,rfl⟩:∃g,f=g+1:=⟨f-1,by omega⟩;by_cases hy:why≠10/\why≠11
  ·exact .inr hy
  refine .inl ?_;rw[j0n,q1z (by omega),tff];unfold c0l;rw[q0n (by simp only;omega),q0n (by simp only;omega)]
 | succ d ih =>
  intro f t why h1 ht hf;obtain ⟨f,rfl⟩:∃g,f=g+1:=⟨f-1,by omega⟩;by_cases hy:why≠10/\why≠11
  ·exact .inr hy
  refine .inl ?_;rw[j0n,q2a (by omega),tft,x0n n hw h h1 (by omega),obs,w64 (by omega) (by omega)];simp only[tfd];rcases y1z s (t-1) a b with e | e | e | e
  ·rw[v1y e,e,q0z rfl,q0z rfl]
  ·rw[v1x e,e,q0n (by decide),q0n (by decide),q0n (by decide),q0n (by decide),q0z rfl]
  ·rw[l1x e,e,q0n (by decide),q0z rfl];exact (ih f (t+1) why (by omega) (by omega) (by omega)).resolve_right hy
  ·rw[l1w e,e,q0n (by decide),q0n (by decide),q0z rfl];exact (ih f (t+1) 11 (by omega) (by omega) (by omega)).resolve_right (by decide)
theorem y1n (n:Nat) {s:Sta} (hw:StaW s) (h:StaOk s) (a b:Int):l0z (n+18) s a b=some (c0l s a b 3 1 10):=by
 rw[x0m]
 change a0a (d0b (n+17) a0b (a,b,s,10,1,())) _=_
 rw[(g1g n hw h a b 3 a0b 1 10 (by decide) rfl (by unfold a0b;omega)).resolve_right (by decide),obs];split
 ·rfl
 ·split
  ·rfl
  ·rename_i h0 h1;rw[a0t];have hz:(c0l s a b 3 1 10).1=0:=by
    have key:∀(d:Nat) (t why:Int),(c0l s a b d t why).2≠0->(c0l s a b d t why).1=0:=by
     intro d;induction d with
     | zero=>intro t why _;rfl
     | succ d ih =>
      intro t why;unfold c0l;split
      ·intro k;exact absurd rfl k
      ·split
       ·intro _;rfl
       ·exact ih _ _
    exact key 3 1 10 h0
   exact congrArg some (Prod.ext hz.symm rfl)
theorem n1m (n:Nat) {s:Sta} (hw:StaW s) (h:StaOk s) (a b:Int):∀(d f:Nat) (t:Int) (ex:Bool),1<=t->t+d=4->d<f ->
  j0l (n+11) f (a,b,s,ex,t,())=some (if (c0l s a b d t (if ex then 11 else 10)).2=0 then .inr (c0l s a b d t (if ex then 11 else 10)) else if (c0l s a b d t (if ex then 11 else 10)).2=1 then .inr (c0l s a b d t (if ex then 11 else 10)) else .inl (decide ((c0l s a b d t (if ex then 11 else 10)).2=11),())):=by
 intro d;induction d with
 | zero =>
  intro f t ex h1 ht hf;obtain ⟨f,rfl⟩:∃g,f=g+1:=⟨f-1,by omega⟩;rw[r0m,q1z (by omega),tff];unfold c0l;cases ex<;>rfl
 | succ d ih =>
  intro f t ex h1 ht hf;obtain ⟨f,rfl⟩:∃g,f=g+1:=⟨f-1,by omega⟩;rw[r0m,q2a (by omega),tft,d1q n hw h h1 (by omega),obs,w64 (by omega) (by omega)];simp only[tfd];rcases y1z s (t-1) a b with e | e | e | e
  ·rw[v1y e,e,q0z rfl,q0z rfl]
  ·rw[v1x e,e,q0n (by decide),q0z rfl,q0n (by decide),q0z rfl]
  ·rw[l1x e,e,q0n (by decide),q0n (by decide)];cases ex with
   | true=>rw[tft];exact ih f (t+1) true (by omega) (by omega) (by omega)
   | false=>rw[tff];exact ih f (t+1) false (by omega) (by omega) (by omega)
  ·rw[l1w e,e,q0n (by decide),q0n (by decide)];cases ex with
   | true=>rw[tft];exact ih f (t+1) true (by omega) (by omega) (by omega)
   | false=>rw[tff];exact ih f (t+1) true (by omega) (by omega) (by omega)
theorem g2h (s:Sta) (a b:Int):∀(d:Nat) (t why:Int),(why=10\/why=11)->(c0l s a b d t why).2=0\/((c0l s a b d t why).1=0/\((c0l s a b d t why).2=1\/(c0l s a b d t why).2=10\/(c0l s a b d t why).2=11)):=by
 intro d;induction d with
 | zero=>intro t why h;exact .inr ⟨rfl,.inr h⟩
 | succ d ih =>
  intro t why h;unfold c0l;split
  ·exact .inl rfl
  ·split
   ·exact .inr ⟨rfl,.inl rfl⟩
   ·refine ih _ _ ?_;split
    ·exact .inr rfl
    ·exact h
noncomputable def m0f (s:Sta) (t a b:Int):Int×Int :=
 if StaOk s then (if t<0\/3<t then (0,1) else if t=0 then c0l s a b 3 1 10 else if oneV s (t-1) a b=0 then (t,0) else (0,oneV s (t-1) a b)) else (0,2)
theorem e2m (n:Nat) {s:Sta} (hw:StaW s) (t a b:Int):z0k (n+19) s t a b=some (m0f s t a b):=by
 rw[o1f,r0b (n+4) hw,obs,tfn,tfd];unfold m0f;by_cases h:StaOk s
 case neg=>rw[q0n h,q0n h];rfl
 rw[q0z h,q0z h,q0z rfl];simp only[tfd,tfn];by_cases h0:t<0
 ·rw[q0z h0,q0z (.inl h0)]
 by_cases h3:3<t
 ·rw[q0n h0,q0z h3,q0z (.inr h3)]
 rw[q0n h0,q0n h3,q0n (show ¬(t<0\/3<t) by omega)];by_cases hz:t=0
 ·rw[q0z hz,q0z hz,y1n n hw h,obs]
 ·rw[q0n hz,q0n hz,x0n (n+1) hw h (by omega) (by omega),obs];by_cases ho:oneV s (t-1) a b=0
  ·rw[q0z ho,q0z ho]
  ·rw[q0n ho,q0n ho]
theorem r22_tier (n:Nat) {s:Sta} (hw:StaW s) (t a b:Int):n1o (n+12) s t a b=some (m0f s t a b):=by
 rw[x1e,l0s (n+2) hw,obs,tfn,tfd];unfold m0f;by_cases h:StaOk s
 case neg=>rw[q0n h,q0n h];rfl
 rw[q0z h,q0z h,q0z rfl];simp only[tfd,tfn];by_cases h0:t<0
 ·rw[q0z h0,q0z (.inl h0)]
 by_cases h3:3<t
 ·rw[q0n h0,q0z h3,q0z (.inr h3)]
 rw[q0n h0,q0n h3,q0n (show ¬(t<0\/3<t) by omega)];by_cases hz:t=0
 ·subst hz;rw[q0n (by decide),q0z rfl,n1m n hw h a b 3 a0b 1 false (by decide) rfl (by unfold a0b;omega),obs];rcases g2h s a b 3 1 10 (.inl rfl) with k | ⟨k1,k⟩
  ·have k':(c0l s a b 3 1 (if false=true then 11 else 10)).2=0:=k;rw[q0z k',f0r];rfl
  ·have e:c0l s a b 3 1 (if false=true then 11 else 10)=c0l s a b 3 1 10:=rfl;rw[e];rcases k with k | k | k
   ·rw[q0n (by rw[k];decide),q0z k,f0r]
   ·rw[q0n (by rw[k];decide),q0n (by rw[k];decide),a0t,k];exact congrArg some (Prod.ext k1.symm k.symm)
   ·rw[q0n (by rw[k];decide),q0n (by rw[k];decide),a0t,k];exact congrArg some (Prod.ext k1.symm k.symm)
 ·rw[q0z (by omega),q0n hz,d1q n hw h (by omega) (by omega),obs];by_cases ho:oneV s (t-1) a b=0
  ·rw[q0z ho,q0z ho]
  ·rw[q0n ho,q0n ho]
def f1x (c:Cel):(Wd×Wd)×Int:=if c.2.2.2.2.2.2<1 then (((0,0),(0,0)),12) else n1h c.2.2.2.1 c.2.2.2.2.2.2
theorem e2n (n:Nat) {c:Cel} (hw:WdOk c.2.2.2.1) (hs:c.2.2.2.2.2.2<=9223372036854775807):z0l (n+7) c=some (f1x c):=by
 rw[o1g,tfd];unfold f1x;by_cases h:c.2.2.2.2.2.2<1
 ·rw[q0z h,q0z h]
 ·rw[q0n h,q0n h,wu64 (by omega) (by omega),d2q n hw ⟨by omega,by omega⟩,obs]
theorem a2j (n:Nat) {c:Cel} (hw:WdOk c.2.2.2.1) (hs:c.2.2.2.2.2.2<=9223372036854775807):m0l (n+8) c=some (f1x c):=by
 rw[x1f,tfd];unfold f1x;by_cases h:c.2.2.2.2.2.2<1
 ·rw[q0z h,q0z h]
 ·rw[q0n h,q0n h,wu64 (by omega) (by omega),r02_rate n hw ⟨by omega,by omega⟩,obs]
theorem d2m (n:Nat) (c:Conf) {s:Ser} (hw:SerW s) {k:Int} (h0:0<=k) (h2:k<=2) (i j:Int):d0z (n+22) c s k i j=some (r0j c s k i j):=by
 unfold r0j;rcases (by omega:k=0\/k=1\/k=2) with e | e | e
 ·subst e;rw[q0z rfl];exact m1r n c hw i j
 ·subst e;rw[q0n (by decide),q0z rfl];exact m1q n c hw i j
 ·subst e;rw[q0n (by decide),q0n (by decide)];exact m1p n c hw i j
theorem d2u (n:Nat) (c:Conf) {s:Ser} (hw:SerW s) {k:Int} (h0:0<=k) (h2:k<=2) (i j:Int):f0s (n+10) c s k i j=some (r0j c s k i j):=by
 unfold r0j;rcases (by omega:k=0\/k=1\/k=2) with e | e | e
 ·subst e;rw[q0z rfl];exact d2x n c hw i j
 ·subst e;rw[q0n (by decide),q0z rfl];exact d2w n c hw i j
 ·subst e;rw[q0n (by decide),q0n (by decide)];exact d2v n c hw i j
theorem h2e {a b w:Int} (h:(k0g a b w).2.2=0):WidP w/\RngP a b/\a % w=0/\b % w=0/\k0g a b w=(a / w,(b / w,0))/\0<=a / w/\a / w<=b / w:=by
 unfold k0g at h ⊢;split at h
 ·rename_i h1;split at h
  ·rename_i h2;rw[q0z h1,q0z h2];exact ⟨h1.1,h1.2,h2.1,h2.2,rfl,Int.ediv_nonneg h1.2.1 (by have:=h1.1.1;omega),Int.ediv_le_ediv (by have:=h1.1.1;omega) (Int.le_of_lt h1.2.2.2)⟩
  ·cases h
 ·cases h
theorem one_ok {s:Sta} {k a b:Int} (h:oneV s k a b=0):(k0g a b (e0r s.1 k)).2.2=0/\(oldV s.2.1 (e0r s.1 k) (tierN s.1 k)).1<=(k0g a b (e0r s.1 k)).1:=by
 unfold oneV at h;split at h
 ·rename_i h1;split at h
  ·cases h
  ·exact ⟨h1,by omega⟩
 ·rename_i h1;exact absurd h h1
theorem which_ok {s:Sta} {a b:Int}:∀(d:Nat) (t why:Int),why≠0->(c0l s a b d t why).2=0->t<=(c0l s a b d t why).1/\(c0l s a b d t why).1<t+d/\oneV s ((c0l s a b d t why).1-1) a b=0:=by
 intro d;induction d with
 | zero=>intro t why hw h;exact absurd h hw
 | succ d ih =>
  intro t why hw h;rcases y1z s (t-1) a b with e | e | e | e
  ·rw[v1y e];exact ⟨by simp only;omega,by simp only;omega,e⟩
  ·rw[v1x e] at h;cases h
  ·rw[l1x e] at h ⊢;obtain ⟨h1,h2,h3⟩:=ih (t+1) why hw h;exact ⟨by omega,by omega,h3⟩
  ·rw[l1w e] at h ⊢;obtain ⟨h1,h2,h3⟩:=ih (t+1) 11 (by decide) h;exact ⟨by omega,by omega,h3⟩
theorem g2o {s:Sta} {t a b:Int} (h:(m0f s t a b).2=0):StaOk s/\1<=(m0f s t a b).1/\(m0f s t a b).1<=3/\oneV s ((m0f s t a b).1-1) a b=0/\0<=t/\t<=3/\(1<=t->(m0f s t a b).1=t):=by
 unfold m0f at h ⊢;by_cases hs:StaOk s
 case neg=>rw[q0n hs] at h;cases h
 rw[q0z hs] at h ⊢;by_cases h1:t<0\/3<t
 ·rw[q0z h1] at h;cases h
 rw[q0n h1] at h ⊢;by_cases h0:t=0
 ·rw[q0z h0] at h ⊢;obtain ⟨k1,k2,k3⟩:=which_ok 3 1 10 (by decide) h;exact ⟨hs,k1,by omega,k3,by omega,by omega,by omega⟩
 ·rw[q0n h0] at h ⊢;by_cases ho:oneV s (t-1) a b=0
  ·rw[q0z ho];exact ⟨hs,by simp only;omega,by simp only;omega,ho,by omega,by omega,fun _=>rfl⟩
  ·rw[q0n ho] at h;exact absurd h ho
noncomputable def b1w (s:Sta) (l:List Lab) (k a b:Int):Cel :=
 match v0h s l with
 | some i=>(r0j s.1 ((s.2.2.2[i]?).getD ser0) k (a / e0r s.1 k) (b / e0r s.1 k)).1
 | none=>z0
theorem found {s:Sta} (hs:StaOk s) {l:List Lab} {i:Nat} (h:v0h s l=some i):∃x,s.2.2.2[i]? = some x/\x.1=l/\LvX s x/\SerOk s.1 x:=by
 obtain ⟨x,hx,h1,h2,_⟩:=l1g.1 h;exact ⟨x,hx,h1,h2,(live_ok hs (q2z hx) h2).1⟩
theorem t1i (n:Nat) {s:Sta} (hw:StaW s) (hs:StaOk s) {q:List Lab×(Int×(Int×Int))} {k:Int} (h0:0<=k) (h2:k<=2) (ho:oneV s k q.2.2.1 q.2.2.2=0):o1d (n+23) s q k=some (b1w s q.1 k q.2.2.1 q.2.2.2,0):=by
 obtain ⟨l,t,a,b⟩:=q;simp only at ho ⊢;rw[y1o];simp only;rw[stt_find (n+12) hw l,obs,tfn,tfd];unfold b1w;cases hf:v0h s l with
 | none=>rw[l1i hs.whole hf,q0n (show ¬((3:Int)=0) by decide)];rfl
 | some i =>
  obtain ⟨x,hx,hxl,hlv,hok⟩:=found hs hf;obtain ⟨s1,s2⟩:=one_ok ho;obtain ⟨_,_,_,_,e,e1,e2⟩:=h2e s1;have hfine:=d1o hok k e1 e2;rw[l1h hs.whole hf,q0z rfl];simp only[hx,Option.getD_some];have fin:∀(x':Ser),x'=x->a0a (d0z (n+22) s.1 x' k (a / e0r s.1 k) (b / e0r s.1 k)) (fun r=>some r)=some ((r0j s.1 x k (a / e0r s.1 k) (b / e0r s.1 k)).1,0):=by
   rintro x' rfl;rw[d2m n s.1 (hw.at hx).1 h0 h2,obs];exact congrArg some (Prod.ext rfl hfine)
  rcases (by omega:k=0\/k=1\/k=2) with ek | ek | ek<;>subst ek
  ·rw[q2a rfl,tft]
   change a0a (h0f (n+22) a b (e0r s.1 0)) _=_
   rw[y0s (n+19),obs,e];simp only[decide_true,q2s,tff];rw[v0p hx,obs];exact fin x rfl
  ·rw[q1z (show ¬((1:Int)=0) by decide),tff,q2a rfl,tft]
   change a0a (h0f (n+22) a b (e0r s.1 1)) _=_
   rw[y0s (n+19),obs,e];simp only[decide_true,q2s,tff];rw[v0p hx,obs];exact fin x rfl
  ·rw[q1z (show ¬((2:Int)=0) by decide),tff,q1z (show ¬((2:Int)=1) by decide),tff,q2a rfl,tft]
   change a0a (h0f (n+22) a b (e0r s.1 2)) _=_
   rw[y0s (n+19),obs,e];simp only[decide_true,q2s,tff];rw[v0p hx,obs];exact fin x rfl
theorem mrgE_okc (a b:Cel):c0g (mrgE a b).1:=by
 unfold mrgE;split
 ·rename_i h;split
  ·rename_i ha;exact u1b h.1 h.2 ha
  ·exact x0t
 ·exact x0t
theorem z0f (ok:Prop) [Decidable ok] (i j last w:Int) (t:List Slo) (now:Cel×Int):c0g (d0f ok i j last w t now).1:=by
 unfold d0f;split
 ·split
  ·exact x0t
  split
  ·exact x0t
  split
  ·exact x0t
  split
  ·exact w0a _ _ _
  split
  ·exact w0a _ _ _
  split
  ·exact x0t
  ·exact mrgE_okc _ _
 ·exact x0t
theorem d2r (c:Conf) (s:Ser) (k i j:Int):c0g (r0j c s k i j).1:=by
 unfold r0j;split
 ·exact z0f _ _ _ _ _ _ _
 split
 ·exact z0f _ _ _ _ _ _ _
 ·exact z0f _ _ _ _ _ _ _
theorem q1e (s:Sta) (l:List Lab) (k a b:Int):c0g (b1w s l k a b):=by
 unfold b1w;split
 ·exact d2r _ _ _ _ _
 ·exact x0t
theorem v0n {c:Cel} (h:c0g c):WdOk c.2.2.2.1/\c.2.2.2.2.2.2<=9223372036854775807:=by
 rcases h with rfl | h
 ·exact ⟨⟨by simp[z0],by simp[z0]⟩,by simp[z0]⟩
 ·have h1:=h.s1;have h2:=h.l.t1;have h3:=h.f.t0;exact ⟨h.w,by omega⟩
abbrev zr:Int×(Cel×((Wd×Wd)×Int)):=(0,(z0,(((0,0),(0,0)),0)))
noncomputable def doQ (s:Sta) (l:List Lab) (t a b:Int):(Int×(Cel×((Wd×Wd)×Int)))×Int :=
 if StaOk s then (if LabOk l then (if (m0f s t a b).2=0 then (((m0f s t a b).1,(b1w s l ((m0f s t a b).1-1) a b,f1x (b1w s l ((m0f s t a b).1-1) a b))),0) else (zr,(m0f s t a b).2)) else (zr,8)) else (zr,2)
theorem o1e (n:Nat) {s:Sta} (hw:StaW s) (l:List Lab):e1c (n+15) s l=some (if StaOk s then (if LabOk l then 0 else 8) else 2):=by
 rw[t1j,r0b n hw,obs,tfn,tfd];by_cases h:StaOk s
 ·rw[q0z h,q0z h,q0z rfl,e1o (n+8) l,obs]
 ·rw[q0n h,q0n h,q0n (by decide)]
theorem query_do (n:Nat) {s:Sta} (hw:StaW s) (q:List Lab×(Int×(Int×Int))):x0p (n+24) s q=some (doQ s q.1 q.2.1 q.2.2.1 q.2.2.2):=by
 rw[y1p,o1e (n+8) hw,obs,tfn,tfd];unfold doQ;by_cases h:StaOk s
 case neg=>rw[q0n h,q0n h,q0n (by decide)];rfl
 rw[q0z h,q0z h];by_cases hl:LabOk q.1
 case neg=>rw[q0n hl,q0n hl,q0n (by decide)];rfl
 rw[q0z hl,q0z hl,q0z rfl,e2m (n+4) hw,obs,tfn,tfd];by_cases ht:(m0f s q.2.1 q.2.2.1 q.2.2.2).2=0
 case neg=>rw[q0n ht,q0n ht];rfl
 obtain ⟨_,t1,t3,ho,_⟩:=g2o ht;have hr:=v0n (q1e s q.1 ((m0f s q.2.1 q.2.2.1 q.2.2.2).1-1) q.2.2.1 q.2.2.2);rw[q0z ht,q0z ht,w64 (by omega) (by omega),t1i n hw h (by omega) (by omega) ho,obs];simp only[decide_true,q2s,tff];rw[e2n (n+16) hr.1 hr.2,obs]
theorem r22_do (n:Nat) {s:Sta} (hw:StaW s) (q:List Lab×(Int×(Int×Int))):h2v (n+13) s q=some (doQ s q.1 q.2.1 q.2.2.1 q.2.2.2):=by
 obtain ⟨l,t,a,b⟩:=q;rw[h2u];simp only;rw[l0s (n+3) hw,obs,tfn,tfd];unfold doQ;by_cases h:StaOk s
 case neg=>rw[q0n h,q0n h,q0n (by decide)];rfl
 rw[q0z h,q0z h,q0z rfl,s1x (n+10) l,obs,tfn,tfd];by_cases hl:LabOk l
 case neg=>rw[q0n hl,q0n hl,q0n (by decide)];rfl
 rw[q0z hl,q0z hl,q0z rfl,r22_tier n hw,obs,tfn,tfd];by_cases ht:(m0f s t a b).2=0
 case neg=>rw[q0n ht,q0n ht];rfl
 obtain ⟨_,t1,t3,ho,_⟩:=g2o ht;have hc:=q1e s l ((m0f s t a b).1-1) a b;have hr:=v0n hc;generalize hk:(m0f s t a b).1=k at *
 rw[q0z ht,q0z ht,w64 (by omega) (by omega),r17_find (n+5) hw l,obs,tfd];cases hf:v0h s l with
 | none =>
  have e:b1w s l (k-1) a b=z0:=by unfold b1w;rw[hf]
  rw[l1i h.whole hf,q0n (show ¬((3:Int)=0) by decide)]
  change a0a (m0l (n+12) z0) _=_
  rw[a2j (n+4) (c:=z0) (e ▸ hr).1 (e ▸ hr).2,obs,e];rfl
 | some i =>
  obtain ⟨x,hx,hxl,hlv,hok⟩:=found h hf;obtain ⟨s1,s2⟩:=one_ok ho;obtain ⟨_,_,_,_,e,e1,e2⟩:=h2e s1;have hfine:=d1o hok (k-1) e1 e2;have ec:b1w s l (k-1) a b=(r0j s.1 x (k-1) (a / e0r s.1 (k-1)) (b / e0r s.1 (k-1))).1:=by unfold b1w;simp only[hf,hx,Option.getD_some]
  rw[l1h h.whole hf,q0z rfl];simp only;have fin:(a0a (f0s (n+12) s.1 x (k-1) (a / e0r s.1 (k-1)) (b / e0r s.1 (k-1))) fun r6=>tif (!(decide (r6.2=(0:Int)))) (some (zr,r6.2)) (a0a (m0l (n+12) r6.1) fun r7=>some ((k,(r6.1,r7)),(0:Int))))=some ((k,(b1w s l (k-1) a b,f1x (b1w s l (k-1) a b))),0):=by
   rw[d2u (n+2) s.1 (hw.at hx).1 (by omega) (by omega),obs,tfn,tfd,q0z hfine,<-ec,a2j (n+4) hr.1 hr.2,obs]
  rcases (by omega:k=1\/k=2\/k=3) with ek | ek | ek<;>subst ek
  ·rw[q2a (show (1:Int)-1=0 from rfl),tft]
   change a0a (f0m (n+12) a b (e0r s.1 (1-1))) _=_
   rw[t0e (n+10),obs,e,v0p hx,obs];exact fin
  ·rw[q1z (show ¬((2:Int)-1=0) by decide),tff,q2a (show (2:Int)-1=1 from rfl),tft]
   change a0a (f0m (n+12) a b (e0r s.1 (2-1))) _=_
   rw[t0e (n+10),obs,e,v0p hx,obs];exact fin
  ·rw[q1z (show ¬((3:Int)-1=0) by decide),tff,q1z (show ¬((3:Int)-1=1) by decide),tff,q2a (show (3:Int)-1=2 from rfl),tft]
   change a0a (f0m (n+12) a b (e0r s.1 (3-1))) _=_
   rw[t0e (n+10),obs,e,v0p hx,obs];exact fin
abbrev Wat:=(List Lab×(Int×(Int×Int)))×(Wd×Wd)
noncomputable def oneW (s:Sta) (w:Wat):Bool×Int :=
 if StaOk s then (if o0y w.2 then
  (if (doQ s w.1.1 w.1.2.1 w.1.2.2.1 w.1.2.2.2).2=0 then
   (if (doQ s w.1.1 w.1.2.1 w.1.2.2.1 w.1.2.2.2).1.2.2.2=0 then
    (if (j1h (doQ s w.1.1 w.1.2.1 w.1.2.2.1 w.1.2.2.2).1.2.2.1 w.2).2=0 then (!(j1h (doQ s w.1.1 w.1.2.1 w.1.2.2.1 w.1.2.2.2).1.2.2.1 w.2).1,0) else (false,(j1h (doQ s w.1.1 w.1.2.1 w.1.2.2.1 w.1.2.2.2).1.2.2.1 w.2).2))
   else (false,(doQ s w.1.1 w.1.2.1 w.1.2.2.1 w.1.2.2.2).1.2.2.2))
  else (false,(doQ s w.1.1 w.1.2.1 w.1.2.2.1 w.1.2.2.2).2)) else (false,2)) else (false,2)
theorem rateC_w {c:Cel} (hw:WdOk c.2.2.2.1) (hs:c.2.2.2.2.2.2<=9223372036854775807):FrW (f1x c).1/\((f1x c).2=0->o0y (f1x c).1):=by
 unfold f1x;by_cases h:c.2.2.2.2.2.2<1
 ·rw[q0z h];exact ⟨⟨h0b (x:=0) (by omega),h0b (x:=0) (by omega)⟩,fun e=>by cases e⟩
 ·rw[q0n h];exact rateV_w hw ⟨by omega,by omega⟩
theorem doQ_w (s:Sta) (l:List Lab) (t a b:Int):FrW (doQ s l t a b).1.2.2.1/\((doQ s l t a b).2=0->(doQ s l t a b).1.2.2.2=0->o0y (doQ s l t a b).1.2.2.1):=by
 have hz:FrW (((0,0),(0,0)):Wd×Wd):=⟨h0b (x:=0) (by omega),h0b (x:=0) (by omega)⟩;unfold doQ;by_cases h:StaOk s
 case neg=>rw[q0n h];exact ⟨hz,fun e=>by cases e⟩
 rw[q0z h];by_cases hl:LabOk l
 case neg=>rw[q0n hl];exact ⟨hz,fun e=>by cases e⟩
 rw[q0z hl];by_cases ht:(m0f s t a b).2=0
 case neg=>rw[q0n ht];exact ⟨hz,fun e=>(ht e).elim⟩
 rw[q0z ht];have hr:=v0n (q1e s l ((m0f s t a b).1-1) a b);have:=rateC_w hr.1 hr.2;exact ⟨this.1,fun _ e=>this.2 e⟩
theorem q1u (n:Nat) {s:Sta} (hw:StaW s) {w:Wat} (hf:FrW w.2):c0r (n+25) s w=some (oneW s w):=by
 rw[c0y,r0b (n+10) hw,obs];unfold oneW;by_cases h:StaOk s
 case neg=>rw[q0n h,q0n h];rfl
 rw[q0z h,q0z h,v0c (n+19) hf];simp only[decide_true,q2s,tff,obs];by_cases h2:o0y w.2
 case neg=>rw[q0n h2,q0n h2];rfl
 rw[q0z h2,q0z h2,query_do n hw w.1];simp only[decide_true,q2s,tff,obs,tfd,tfn];have hq:=(doQ_w s w.1.1 w.1.2.1 w.1.2.2.1 w.1.2.2.2).1;generalize doQ s w.1.1 w.1.2.1 w.1.2.2.1 w.1.2.2.2=d at *
 by_cases h3:d.2=0
 case neg=>rw[q0n h3,q0n h3,q0n h3]
 rw[q0z h3,q0z h3];by_cases h4:d.1.2.2.2=0
 case neg=>rw[q0n h4,q0n h4]
 rw[q0z h4,q0z h4,x1b (n+18) hq hf,obs];by_cases h5:(j1h d.1.2.2.1 w.2).2=0
 ·rw[q0z h5,q0z h5,h5]
 ·rw[q0n h5,q0n h5]
theorem oneW_ok {s:Sta} {w:Wat} (h:(oneW s w).1=true):(oneW s w).2=0:=by
 unfold oneW at *
 generalize doQ s w.1.1 w.1.2.1 w.1.2.2.1 w.1.2.2.2=d at *
 by_cases h1:StaOk s
 case neg=>rw[q0n h1] at h;cases h
 by_cases h2:o0y w.2
 case neg=>rw[q0z h1,q0n h2] at h;cases h
 by_cases h3:d.2=0
 case neg=>rw[q0z h1,q0z h2,q0n h3] at h;cases h
 by_cases h4:d.1.2.2.2=0
 case neg=>rw[q0z h1,q0z h2,q0z h3,q0n h4] at h;cases h
 by_cases h5:(j1h d.1.2.2.1 w.2).2=0
 case neg=>rw[q0z h1,q0z h2,q0z h3,q0z h4,q0n h5] at h;cases h
 rw[q0z h1,q0z h2,q0z h3,q0z h4,q0z h5]
def plcs {α:Type} (p:α->Bool):List α->Int->List Int
 | [],_=>[]
 | x::r,i=>if p x=true then i::plcs p r (i+1) else plcs p r (i+1)
theorem o1i {α:Type} (p:α->Bool):∀(l:List α) (i:Int),(plcs p l i).length<=l.length:=by
 intro l;induction l with
 | nil=>intro i;simp[plcs]
 | cons x l ih =>
  intro i;unfold plcs;have:=ih (i+1);split
  ·simp;omega
  ·simp;omega
theorem places_l (n:Nat) (is:(Wat×Unit)->Option Bool) (p:Wat->Bool) (l:List Wat) (hL:l.length<=1000000) (his:∀x∈l,is (x,())=some (p x)):∀(rest pre:List Wat) (f:Nat) (out:List Int) (i len:Int),l=pre++rest->i=pre.length->len=l.length->rest.length<f->out.length<=pre.length ->
  a0g n f (is,out,l,len,i,())=some (.inl (out++plcs p rest i,())):=by
 intro rest;induction rest with
 | nil =>
  intro pre f out i len hl hi hn hf ho;obtain ⟨f,rfl⟩:∃g,f=g+1:=⟨f-1,by simp at hf;omega⟩;rw[a0f,q1z (idxe hl hi hn),tff];simp[plcs]
 | cons x rest ih =>
  intro pre f out i len hl hi hn hf ho;obtain ⟨f,rfl⟩:∃g,f=g+1:=⟨f-1,by simp at hf;omega⟩;have hlen:=congrArg List.length hl;simp only[q2d,q2k] at hlen;rw[a0f,q2a (idx hl hi hn),tft,c0e hl hi,obs,his x (by rw[hl];simp),obs,idxw hl hi (show l.length<=1000000000000 by omega)];simp only[q2k] at hf;unfold plcs;by_cases h:p x=true
  ·rw[h,tft,q2a (by omega),tft,ih (pre++[x]) f (out++[i]) (i+1) len (idxl hl) (idxs hi) hn (by omega) (by simp;omega),q0z rfl,q2g];rfl
  ·rw[Bool.not_eq_true] at h;rw[h,tff,ih (pre++[x]) f out (i+1) len (idxl hl) (idxs hi) hn (by omega) (by simp;omega),q0n (by decide)]
theorem z0m (n:Nat) (is:(Wat×Unit)->Option Bool) (p:Wat->Bool) (l:List Wat) (hL:l.length<=1000000) (his:∀x∈l,is (x,())=some (p x)):b0q (n+1) l is=some (plcs p l 0):=by
 rw[c0h];have:=places_l n is p l hL his l [] a0b [] 0 _ rfl rfl rfl (by unfold a0b;omega) (q2e _);rw[this,obs,a0t];rfl
theorem may_l (n:Nat) (l:List Sta) (hL:l.length<=1000000) (hw:∀s∈l,StaW s):∀(rest pre:List Sta) (f:Nat) (i len:Int),l=pre++rest->i=pre.length->len=l.length->rest.length<f ->
  b0e (n+14) f (l,len,i,())=some (if (∀s∈rest,StaOk s) then .inl () else .inr 2):=by
 intro rest;induction rest with
 | nil =>
  intro pre f i len hl hi hn hf;obtain ⟨f,rfl⟩:∃g,f=g+1:=⟨f-1,by simp at hf;omega⟩;rw[b0f,q1z (idxe hl hi hn),tff,q0z (by simp)]
 | cons x rest ih =>
  intro pre f i len hl hi hn hf;obtain ⟨f,rfl⟩:∃g,f=g+1:=⟨f-1,by simp at hf;omega⟩;rw[b0f,q2a (idx hl hi hn),tft,c0e hl hi,obs,r0b n (hw x (by rw[hl];simp)),obs,idxw hl hi (show l.length<=1000000000000 by omega)];by_cases h:StaOk x
  ·rw[q0z h];simp only[decide_true,q2s,tff];rw[ih (pre++[x]) f (i+1) len (idxl hl) (idxs hi) hn (by simp at hf;omega)];by_cases k:∀s∈rest,StaOk s
   ·rw[q0z k,q0z];intro s hs;rcases q2l.1 hs with rfl | hs
    ·exact h
    ·exact k s hs
   ·rw[q0n k,q0n fun q=>k fun s hs=>q s (by simp[hs])]
  ·rw[q0n h,q0n fun k=>h (k x (by simp))];rfl
theorem j2f (n:Nat) (ws:List Wat) (l:List Sta) (hL:l.length<=1000000) (hw:∀s∈l,StaW s):c0s (n+15) ws l=some (if 256<ws.length then 6 else if (∀s∈l,StaOk s) then 0 else 2):=by
 rw[e0j,tfd];by_cases h:256<ws.length
 ·rw[q0z (by omega),q0z h]
 rw[q0n (by omega),q0n h];have:=may_l n l hL hw l [] a0b 0 _ rfl rfl rfl (by unfold a0b;omega);rw[this,obs];by_cases h2:∀s∈l,StaOk s
 ·rw[q0z h2,q0z h2];rfl
 ·rw[q0n h2,q0n h2];rfl
noncomputable def m0j (s:Sta) (w:Wat):Bool:=(oneW s w).1
noncomputable def k1m (s:Sta) (ws:List Wat):List Int×Int:=if 256<ws.length then ([],6) else if StaOk s then (plcs (m0j s) ws 0,0) else ([],2)
noncomputable def upB (a b:Sta) (w:Wat):Bool:=m0j b w && !m0j a w
noncomputable def q1w (a b:Sta) (ws:List Wat):List Int×(List Int×Int):=if 256<ws.length then ([],([],6)) else if StaOk a/\StaOk b then (plcs (upB a b) ws 0,(plcs (upB b a) ws 0,0)) else ([],([],2))
structure WsW (ws:List Wat):Prop where
 fr:∀w∈ws,FrW w.2
theorem j0g (n:Nat) {s:Sta} (hw:StaW s) {w:Wat} (hf:FrW w.2):a0e (n+26) w s=some (m0j s w):=by
 rw[e0v,q1u n hw hf];rfl
theorem v1z (n:Nat) {s:Sta} (hw:StaW s) {ws:List Wat} (hf:WsW ws):l0e (n+28) s ws=some (k1m s ws):=by
 rw[t0u,j2f (n+12) ws [s] (by simp) (by simp[hw]),obs];unfold k1m;by_cases h:256<ws.length
 ·rw[q0z h,q0z h];rfl
 rw[q0n h,q0n h];simp only[q2l,List.not_mem_nil,or_false,forall_eq];by_cases h1:StaOk s
 case neg=>rw[q0n h1,q0n h1];rfl
 rw[q0z h1,q0z h1];simp only[decide_true,q2s,tff];rw[l0c,obs,z0m (n+26) (fun y=>a0e (n+26) y.1 s) (m0j s) ws (by omega) (fun x hx=>j0g n hw (hf.fr x hx)),obs]
theorem watch_t1 (m n:Nat) {a b:Sta} (ha:StaW a) (hb:StaW b) {w:Wat} (hf:FrW w.2):b0h (m+1) w (fun y=>a0e (n+26) y.1 b) (fun y=>a0e (n+26) y.1 a)=some (upB a b w):=by
 rw[d0o];simp only[j0g n ha hf,j0g n hb hf,obs];unfold upB;cases m0j b w<;>rfl
theorem watch_t2 (m n:Nat) {a b:Sta} (ha:StaW a) (hb:StaW b) {w:Wat} (hf:FrW w.2):b0g (m+1) w (fun y=>a0e (n+26) y.1 a) (fun y=>a0e (n+26) y.1 b)=some (upB b a w):=by
 rw[d0n];simp only[j0g n ha hf,j0g n hb hf,obs];unfold upB;cases m0j a w<;>rfl
theorem q1t (n:Nat) {a b:Sta} (ha:StaW a) (hb:StaW b) {ws:List Wat} (hf:WsW ws):f0o (n+29) a b ws=some (q1w a b ws):=by
 rw[l0d,j2f (n+13) ws [a,b] (by simp) (by simp[ha,hb]),obs];unfold q1w;by_cases h:256<ws.length
 ·rw[q0z h,q0z h];rfl
 rw[q0n h,q0n h];simp only[q2l,List.not_mem_nil,or_false,forall_eq_or_imp,forall_eq];by_cases h1:StaOk a/\StaOk b
 case neg=>rw[q0n h1,q0n h1];rfl
 rw[q0z h1,q0z h1];simp only[decide_true,q2s,tff];rw[l0c,obs,l0c,obs];rw[z0m (n+27) (fun y=>b0h (n+28) y.1 (fun y=>a0e (n+27) y.1 b) (fun y=>a0e (n+27) y.1 a)) (upB a b) ws (by omega) (fun x hx=>watch_t1 (n+27) (n+1) ha hb (hf.fr x hx)),obs,
  z0m (n+27) (fun y=>b0g (n+28) y.1 (fun y=>a0e (n+27) y.1 a) (fun y=>a0e (n+27) y.1 b)) (upB b a) ws (by omega) (fun x hx=>watch_t2 (n+27) (n+1) ha hb (hf.fr x hx)),obs]
end Go.Proofs.YteopnkdnglpbfaaGreatDoor

namespace Go.Plim
set_option linter.unusedVariables false
theorem c2t (x:Nat):∀m:Nat,valL ((List.range m).map fun j=>((byt x j:Nat):Int))=((x % 256^m:Nat):Int):=by
 intro m;induction m with
 | zero=>simp[valL,Nat.mod_one]
 | succ m ih =>
  rw[List.range_succ,List.map_append,b1y,ih];simp only[List.length_map,List.length_range,q3h,List.map_nil,valL,Int.mul_zero,Int.add_zero];rw[Nat.pow_succ,Nat.mod_mul];unfold byt;have e:(256:Int)^m=((256^m:Nat):Int):=by simp
  rw[e,<-q3f,<-Int.natCast_add]
def hiL (l:List Int) (k:Nat):Int:=valL (l.drop k)
theorem b2m {l:List Int} {k:Nat} {y:Int} (h:l[k]? = some y):hiL l k=y+256*hiL l (k+1):=by
 unfold hiL;obtain ⟨hk,e⟩:=q2p.1 h;rw[q2y hk,e];rfl
theorem k2e {l:List Int} {k:Nat} (h:l.length<=k):hiL l k=0:=by
 unfold hiL;rw[List.drop_eq_nil_of_le h];rfl
theorem b2l (l:List Int):hiL l 0=valL l:=rfl
theorem i2l {V P o n x y more H W E:Int} (hn:n=o+x*y+more) (hV:W=V+(n % 256-o)*P) (hE:E=W+(n / 256+x*H)*(P*256)):E=V+(more+x*(y+256*H))*P:=by
 have h1:n=n % 256+256*(n / 256):=by have:=Int.emod_add_mul_ediv n 256;omega
 generalize n % 256=a at *
 generalize n / 256=b at *
 subst hE hV;have e1:(b+x*H)*(P*256)=(256*b+256*(x*H))*P:=by
  rw[Int.mul_comm P 256,<-Int.mul_assoc,Int.add_mul,Int.mul_comm b 256,Int.mul_comm (x*H) 256]
 have e2:more+x*(y+256*H)=more+x*y+256*(x*H):=by
  rw[Int.mul_add,Int.mul_left_comm x 256 H];omega
 rw[e1,e2,Int.add_assoc,<-Int.add_mul];congr 2;omega
end Go.Plim

namespace Go.Proofs.YteopnkdnglpbfaaGreatDoor
open Go.Flat Go.Plim
set_option linter.unusedVariables false
set_option linter.unusedSimpArgs false
theorem l2o {x:Nat} (h:x<340282366920938463463374607431768211456):valL (bys x)=(x:Int):=by
 unfold bys;rw[c2t,Nat.mod_eq_of_lt (Nat.lt_of_lt_of_eq h (by decide))]
theorem l2p {x k:Nat} {y:Int} (h:(bys x)[k]? = some y):0<=y/\y<=255:=by
 by_cases hk:k<16
 ·rw[b1i x hk] at h;injection h with h;have:=l1l x k;omega
 ·rw[q2f (by rw[q0o];omega)] at h;cases h
theorem mul_byt {x y:Int} (hx:0<=x/\x<=255) (hy:0<=y/\y<=255):0<=x*y/\x*y<=65025:=by
 refine ⟨Int.mul_nonneg hx.1 hy.1,?_⟩;have h1:x*y<=255*y:=Int.mul_le_mul_of_nonneg_right hx.2 hy.1;omega
theorem prod_l8 (n:Nat) (X Y:Nat) (i:Nat) (hi:i<16) {xi:Int} (hxi:(bys X)[i]? = some xi) (s4:_) (s16:Int):∀(d k f:Nat) (out:List Int) (more:Int),k+d=16->d<f->Dig out->out.length=32->0<=more/\more<=255 ->
  ∃out' more',j0b n f (s4,out,bys X,bys Y,(i:Int),more,s16,(k:Int),())=some (.inl (s4,out',bys X,bys Y,(i:Int),more',s16,()))/\Dig out'/\out'.length=32/\(0<=more'/\more'<=255) /\
   valL out'+more'*256^(i+16)=valL out+(more+xi*hiL (bys Y) k)*256^(i+k)/\∀j,i+16<=j->out'[j]? = out[j]? := by
 have hx:=l2p hxi;intro d;induction d with
 | zero =>
  intro k f out more hk hf hd hl hm;obtain ⟨f,rfl⟩:∃g,f=g+1:=⟨f-1,by omega⟩;obtain rfl:k=16:=by omega
  rw[o0e,q1z (by omega),tff];refine ⟨out,more,rfl,hd,hl,hm,?_,fun _ _=>rfl⟩;rw[k2e (by rw[q0o];omega),Int.mul_zero,Int.add_zero]
 | succ d ih =>
  intro k f out more hk hf hd hl hm;obtain ⟨f,rfl⟩:∃g,f=g+1:=⟨f-1,by omega⟩;obtain ⟨y,hy⟩:∃y,(bys Y)[k]? = some y:=⟨_,b1i Y (by omega)⟩;have hyr:=l2p hy;obtain ⟨o,ho⟩:∃o,out[i+k]? = some o:=⟨out[i+k],q2b (by omega)⟩;have hor:=hd o (q2z ho);have hxy:=mul_byt hx hyr;have e1:wrap .i64 ((i:Int)+(k:Int))=((i+k:Nat):Int):=by rw[w64 (by omega) (by omega)];omega
  rw[o0e];simp only[e1,hl,q0o,q2i];rw[q2a (show (k:Int)<16 by omega),tft,q2a (show (0:Int)<=((i+k:Nat):Int) by omega),q2a (show ((i+k:Nat):Int)<32 by omega),q2a (show ((i+k:Nat):Int)<((32:Nat):Int) by omega),
   q2a (show (0:Int)<=(i:Int) by omega),q2a (show (i:Int)<16 by omega),q2a (show (i:Int)<((16:Nat):Int) by omega),q2a (show (0:Int)<=(k:Int) by omega),q2a (show (k:Int)<((16:Nat):Int) by omega)]
  simp only[Bool.and_self,tft,ho,hxi,hy,obs];have en:wrap .i64 (wrap .i64 (o+wrap .i64 (xi*y))+more)=o+xi*y+more:=by
   rw[w64 (x:=xi*y) (by omega) (by omega),w64 (x:=o+xi*y) (by omega) (by omega),w64 (by omega) (by omega)]
  rw[en,e0w (by omega),i0k (by omega),w64 (x:=(o+xi*y+more) / 256) (by omega) (by omega),w64 (x:=(k:Int)+1) (by omega) (by omega),show (k:Int)+1=((k+1:Nat):Int) by omega];generalize hN:o+xi*y+more=N at *
  obtain ⟨out',more',r1,r2,r3,r4,r5,r6⟩:=ih (k+1) f (out.set (i+k) (N % 256)) (N / 256) (by omega) (by omega) (l2d hd _ (by omega)) (by simpa using hl) (by omega);refine ⟨out',more',r1,r2,r3,r4,?_,fun j hj => ?_⟩
  ·rw[r5,b2m hy];refine i2l (o:=o) (n:=N) (W:=valL (out.set (i+k) (N % 256))) hN.symm (a2d out (i+k) _ o ho) ?_;rw[show i+(k+1)=(i+k)+1 by omega,Int.pow_succ]
  ·rw[r6 j hj,q3e (by omega)]
theorem prod_l4 (n:Nat) (X Y:Nat) (hY:Y<340282366920938463463374607431768211456) (s4:_):∀(d i f:Nat) (out:List Int),i+d=16->d<f->Dig out->out.length=32->(∀j,i+16<=j->j<32->out[j]? = some 0) ->
  ∃out',f0h n f (s4,out,bys X,bys Y,(i:Int),())=some (.inl (s4,out',()))/\Dig out'/\out'.length=32/\valL out'=valL out+hiL (bys X) i*256^i*(Y:Int):=by
 intro d;induction d with
 | zero =>
  intro i f out hk hf hd hl hz;obtain ⟨f,rfl⟩:∃g,f=g+1:=⟨f-1,by omega⟩;obtain rfl:i=16:=by omega
  rw[o0f,q1z (by omega),tff];refine ⟨out,rfl,hd,hl,?_⟩;rw[k2e (by rw[q0o];omega)];simp
 | succ d ih =>
  intro i f out hk hf hd hl hz;obtain ⟨f,rfl⟩:∃g,f=g+1:=⟨f-1,by omega⟩;have hi:i<16:=by omega
  obtain ⟨x,hx⟩:∃x,(bys X)[i]? = some x:=⟨_,b1i X hi⟩;obtain ⟨o1,m1,r1,r2,r3,r4,r5,r6⟩:=prod_l8 n X Y i hi hx s4 (i:Int) 16 0 a0b out 0 (by omega) (by unfold a0b;omega) hd hl (by omega);have e0:o1[i+16]? = some 0:=by rw[r6 _ (q2e _)];exact hz _ (q2e _) (by omega)
  have e1:wrap .i64 ((i:Int)+16)=((i+16:Nat):Int):=by rw[w64 (by omega) (by omega)];omega
  rw[o0f,q2a (show (i:Int)<16 by omega),tft];simp only[show ((0:Nat):Int)=0 from rfl] at r1;rw[r1,obs,a0t];simp only[e1,r3,q2i];rw[q2a (show (0:Int)<=((i+16:Nat):Int) by omega),q2a (show ((i+16:Nat):Int)<32 by omega),q2a (show ((i+16:Nat):Int)<((32:Nat):Int) by omega)];simp only[Bool.and_self,tft,e0,obs];rw[show (0:Int)+m1=m1 by omega,w64 (x:=m1) (by omega) (by omega),w64 (x:=(i:Int)+1) (by omega) (by omega),show (i:Int)+1=((i+1:Nat):Int) by omega]
  obtain ⟨o2,q1,q2,q3,q4⟩:=ih (i+1) f (o1.set (i+16) m1) (by omega) (by omega) (l2d r2 _ r4) (by simpa using r3) (fun j hj hj2=>by
   rw[q3e (by omega),r6 j (by omega)];exact hz j (by omega) hj2)
  refine ⟨o2,q1,q2,q3,?_⟩;have hv:=a2d o1 (i+16) m1 0 e0;rw[q4,hv,b2m hx];rw[b2l,l2o hY,Int.zero_add,Nat.add_zero] at r5;have e2:(x+256*hiL (bys X) (i+1))*256^i*(Y:Int)=x*Y*256^i+hiL (bys X) (i+1)*256^(i+1)*(Y:Int):=by
   rw[Int.add_mul,Int.add_mul,Int.mul_right_comm x,Int.pow_succ,Int.mul_comm 256 (hiL (bys X) (i+1)),Int.mul_assoc (hiL (bys X) (i+1)) 256,Int.mul_comm 256 (256^i)]
  rw[e2];rw[Int.sub_zero] at hv;clear q4 hv e2 q1 q2 q3 r1 r6;generalize hiL (bys X) (i+1)*256^(i+1)*(Y:Int)=U at *
  generalize (256:Int)^(i+16)=P at *
  generalize x*(Y:Int)*256^i=Q at *
  rw[Int.sub_zero];generalize m1*P=R at *
  omega
theorem valL_rep (n:Nat):valL (List.replicate n 0)=0:=by
 induction n with
 | zero=>rfl
 | succ n ih=>rw[List.replicate_succ];simp[valL,ih]
theorem prod_ex (n:Nat) {X Y:Nat} (hX:X<340282366920938463463374607431768211456) (hY:Y<340282366920938463463374607431768211456) (s4:_) :
  ∃out',f0h n a0b (s4,List.replicate 32 (0:Int),bys X,bys Y,0,())=some (.inl (s4,out',()))/\Dig out'/\out'.length=32/\valL out'=(X:Int)*Y:=by
 obtain ⟨o,h1,h2,h3,h4⟩:=prod_l4 n X Y hY s4 16 0 a0b (List.replicate 32 (0:Int)) (by omega) (by unfold a0b;omega) (fun x hx=>by have:=(List.mem_replicate.1 hx).2;omega) (by simp) (fun j _ hj=>by rw[List.getElem?_replicate];simp[hj]);refine ⟨o,h1,h2,h3,?_⟩;rw[h4,valL_rep,b2l,l2o hX,Int.pow_zero,Int.zero_add,Int.mul_one]
def tl:(n:Nat)->El (tupN (.int .i64) n)->List Int
 | 0,_=>[]
 | 1,x=>[x]
 | n+2,x=>x.1::tl (n+1) x.2
theorem c1y:∀(n:Nat) (p:El (tupN (.int .i64) n)),(tl n p).length=n
 | 0,_=>rfl
 | 1,_=>rfl
 | n+2,p=>by rw[tl,q2k,c1y (n+1) p.2]
theorem h2k (xs:List Int):∀(n j:Nat),j+(n+1)=xs.length->∃p,rowT (.int .i64) xs (n+1) j=some p/\tl (n+1) p=xs.drop j:=by
 intro n;induction n with
 | zero =>
  intro j h;have hj:j<xs.length:=by omega
  refine ⟨xs[j],q2b hj,?_⟩;rw[q2y hj,List.drop_eq_nil_of_le (by omega)];rfl
 | succ n ih =>
  intro j h;have hj:j<xs.length:=by omega
  obtain ⟨p,h1,h2⟩:=ih (j+1) (by omega);refine ⟨(xs[j],p),?_,?_⟩
  ·show ((xs[j]?).bind fun y=>(rowT (.int .i64) xs (n+1) (j+1)).bind fun z=>some (y,z))=_;rw[q2b hj,q2m,h1,q2m];rfl
  ·rw[q2y hj,<-h2];rfl
theorem tl_inj:∀(n:Nat) (p q:El (tupN (.int .i64) (n+1))),tl (n+1) p=tl (n+1) q->p=q:=by
 intro n;induction n with
 | zero=>intro p q h;exact (List.cons.inj h).1
 | succ n ih =>
  intro p q h;obtain ⟨h1,h2⟩:=List.cons.inj h;exact Prod.ext h1 (ih p.2 q.2 h2)
abbrev B32:Type:=(Int×(Int×(Int×(Int×(Int×(Int×(Int×(Int×(Int×(Int×(Int×(Int×(Int×(Int×(Int×(Int×(Int×(Int×(Int×(Int×(Int×(Int×(Int×(Int×(Int×(Int×(Int×(Int×(Int×(Int×(Int×Int)))))))))))))))))))))))))))))))
theorem r1t (p:B32):rowT (.int .i64) (tl 32 p) 32 0=some p:=by
 obtain ⟨q,h1,h2⟩:=h2k (tl 32 p) 31 0 (c1y 32 p).symm;rw[h1,tl_inj 31 q p h2];rfl
theorem d1z (n:Nat) {X Y:Nat} (hX:X<340282366920938463463374607431768211456) (hY:Y<340282366920938463463374607431768211456):∃p:B32,p0y (n+2) (ofN X) (ofN Y)=some p/\Dig (tl 32 p)/\valL (tl 32 p)=(X:Int)*Y:=by
 obtain ⟨r0,h0,l0⟩:=k0s n hX;obtain ⟨r1,h1,l1⟩:=k0s n hY;obtain ⟨o,g1,g2,g3,g4⟩:=prod_ex (n+1) hX hY (List.replicate 32 (0:Int));obtain ⟨p,q1,q2⟩:=h2k o 31 0 (by rw[g3]);rw[g1e,h0,obs,h1,obs,tfd,q0z (by decide),tfd,q0z (by decide)]
 change ∃p:B32,a0a (f0h (n+1) a0b (List.replicate 32 (0:Int),(List.replicate 32 (0:Int),(l16 r0,(l16 r1,((0:Int),())))))) _=_/\_
 rw[l0,l1,g1]
 change ∃p:B32,(a0a (rowT (.int .i64) o 32 0) fun r4=>tif (decide ((List.replicate 32 (0:Int)).length=_)) (some r4) none)=some p/\_
 refine ⟨p,?_,by rw[show tl 32 p=o from q2];exact g2,by rw[show tl 32 p=o from q2];exact g4⟩;rw[show rowT (.int .i64) o 32 0=some p from q1,obs,tfd,q0z (by rw[List.length_replicate])];rfl
theorem over_l2 (n:Nat) (S:List Int) (hL:S.length<=1000000):∀(rest pre:List Int) (f:Nat) (i len:Int),S=pre++rest->i=pre.length->len=S.length->rest.length<f ->
  l0w n f (S,len,i,())=some (if ∀x∈rest,x=0 then .inl () else .inr true):=by
 intro rest;induction rest with
 | nil =>
  intro pre f i len h hi hn hf;obtain ⟨f,rfl⟩:∃g,f=g+1:=⟨f-1,by simp at hf;omega⟩;rw[u0i,q1z (idxe h hi hn),tff,q0z (fun x hx=>by cases hx)]
 | cons x rest ih =>
  intro pre f i len h hi hn hf;obtain ⟨f,rfl⟩:∃g,f=g+1:=⟨f-1,by simp at hf;omega⟩;have hlen:=congrArg List.length h;simp only[q2d,q2k] at hlen;rw[u0i,q2a (idx h hi hn),tft,c0e h hi,obs,tfn,tfd];by_cases hx:x=0
  ·rw[q0z hx,idxw h hi (by omega),ih (pre++[x]) f (i+1) len (idxl h) (idxs hi) hn (by simp at hf;omega)];by_cases hr:∀y∈rest,y=0
   ·rw[q0z hr,q0z (fun y hy=>by
     rcases q2l.1 hy with rfl | hy
     ·exact hx
     ·exact hr y hy)]
   ·rw[q0n hr,q0n (fun k=>hr fun y hy=>k y (q2j _ hy))]
  ·rw[q0n hx,q0n (fun k=>hx (k x List.mem_cons_self))]
theorem a1w (n:Nat) (p:B32) (hd:Dig (tl 32 p)):c1g (n+1) p=some (decide (340282366920938463463374607431768211456<=valL (tl 32 p))):=by
 have hl:=c1y 32 p;have hS:List.drop 16 (List.take 32 (tl 32 p))=(tl 32 p).drop 16:=congrArg (List.drop 16) (List.take_of_length_le (Nat.le_of_eq hl));have hLl:((tl 32 p).drop 16).length=16:=by rw[List.length_drop,hl]
 rw[y1h]
 change a0a (l0w n a0b (List.drop 16 (List.take 32 (tl 32 p)),((((List.drop 16 (List.take 32 (tl 32 p))).length:Nat):Int),((0:Int),())))) _=_
 rw[hS,over_l2 n ((tl 32 p).drop 16) (by omega) ((tl 32 p).drop 16) [] a0b 0 _ rfl rfl rfl (by unfold a0b;omega),obs];have hsp:=q3b 16 (tl 32 p);have hv:=b1y ((tl 32 p).take 16) ((tl 32 p).drop 16);have hdd:Dig ((tl 32 p).take 16)/\Dig ((tl 32 p).drop 16):=by rw[<-dig_app,hsp];exact hd
 rw[hsp,q2x,hl,Nat.min_eq_left (by omega)] at hv;have hr:=n0p hdd.1;rw[q2x,hl,Nat.min_eq_left (by omega)] at hr;have h0:=(n0p hdd.2).1;have hz:=g2i hdd.2;have e:(256:Int)^16=340282366920938463463374607431768211456:=by decide
 rw[e] at hv hr;by_cases h:∀x∈(tl 32 p).drop 16,x=0
 ·rw[q0z h,a0t,q1z (by rw[hv,hz.2 h];omega)]
 ·rw[q0n h,f0r];have:valL ((tl 32 p).drop 16)≠0:=fun k=>h (hz.1 k)
  rw[q2a (by rw[hv];omega)]
theorem less_l7 (n:Nat) {P Q:List Int} (hP:P.length=32) (hQ:Q.length=32) (dP:Dig P) (dQ:Dig Q):∀(i f:Nat),i<=32->i<f->P.drop i=Q.drop i ->
  l0x n f (P,Q,(i:Int)-1,())=some (if P=Q then .inl () else .inr (decide (valL P<valL Q),0)):=by
 intro i;induction i with
 | zero =>
  intro f hi hf h;obtain ⟨f,rfl⟩:∃g,f=g+1:=⟨f-1,by omega⟩;rw[List.drop_zero,List.drop_zero] at h;rw[u0j,tfd,q0n (by omega),q0z h]
 | succ i ih =>
  intro f hi hf h;obtain ⟨f,rfl⟩:∃g,f=g+1:=⟨f-1,by omega⟩;have hx:P[i]? = some P[i]:=q2b (by omega);have hy:Q[i]? = some Q[i]:=q2b (by omega);have e:((i+1:Nat):Int)-1=(i:Int):=by omega
  have b1:(decide ((0:Int)<=(i:Int))&&(decide ((i:Int)<32)&&decide ((i:Int)<((P.length:Nat):Int))))=true:=by rw[q1n,q1n,q2c,q2c,q2c];omega
  have b2:(decide ((0:Int)<=(i:Int))&&(decide ((i:Int)<32)&&decide ((i:Int)<((Q.length:Nat):Int))))=true:=by rw[q1n,q1n,q2c,q2c,q2c];omega
  have sP:P=P.take i++P[i]::P.drop (i+1):=by
   have:=q3b i P;rw[q2y (by omega)] at this;exact this.symm
  have sQ:Q=Q.take i++Q[i]::Q.drop (i+1):=by
   have:=q3b i Q;rw[q2y (by omega)] at this;exact this.symm
  have tP:(P.take i).length=i:=by rw[q2x];omega
  have tQ:(Q.take i).length=i:=by rw[q2x];omega
  have DP:Dig (P.take i):=fun x hx=>dP x (List.mem_of_mem_take hx)
  have DQ:Dig (Q.take i):=fun x hx=>dQ x (List.mem_of_mem_take hx)
  rw[e,u0j,tfd,q0z (by omega)];simp only[b1,b2,tft,q2i,hx,hy,obs];rw[tfn,tfd];by_cases hxy:P[i]=Q[i]
  ·rw[q0z hxy,w64 (by omega) (by omega)];refine ih f (by omega) (by omega) ?_;rw[q2y (by omega),q2y (l:=Q) (by omega),hxy,h]
  ·rw[q0n hxy,q0n (fun k=>hxy (by simp only[k]))];have key:decide (P[i]<Q[i])=decide (valL P<valL Q):=by
    rcases Int.lt_or_gt_of_ne hxy with k | k
    ·have:=g2j (t:=P.drop (i+1)) (tP.trans tQ.symm) DP DQ k;rw[<-sP,h,<-sQ] at this;rw[q2a k,q2a this]
    ·have:=g2j (t:=Q.drop (i+1)) (tQ.trans tP.symm) DQ DP k;rw[<-sQ,<-h,<-sP] at this;rw[q1z (by omega),q1z (by omega)]
   rw[key]
theorem e1a (n:Nat) {f:Wd×Wd} (h:FrW f):s0c (n+6) f=some (if o0y f then 0 else 2):=by
 obtain ⟨x,y,hx,hy,rfl⟩:=h.nat;rw[t1b];simp only[o0p];rw[q0e,tfd];by_cases hd:y=0
 ·rw[q0z hd,q0n (fun k:FrR x y=>k.1 hd)]
 rw[q0n hd,i2h n hx hy,obs,tfn,u1a,tfd];by_cases hg:Nat.gcd x y=1
 ·rw[q0z hg,q0z (show FrR x y from ⟨hd,hg⟩)]
 ·rw[q0n hg,q0n (fun e:FrR x y=>hg e.2)]
theorem i2g (n:Nat) {f g:Wd×Wd} (hf:FrW f) (hg:FrW g):n1z (n+7) f g=some (j1h f g):=by
 rw[y1j,e1a n hf,obs,e1a n hg,obs];obtain ⟨a,b,ha,hb,rfl⟩:=hf.nat;obtain ⟨c,d,hc,hd,rfl⟩:=hg.nat;simp only[o0p,u1d];unfold lessN;by_cases h1:FrR a b
 case neg=>rw[q0n h1,q0n (fun e:FrR a b/\FrR c d=>h1 e.1)];rfl
 by_cases h2:FrR c d
 case neg=>rw[q0n h2,q0z h1,q0n (fun e:FrR a b/\FrR c d=>h2 e.2)];rfl
 rw[q0z h1,q0z h2,q0z ⟨h1,h2⟩];simp only[decide_true,q2s,tff];obtain ⟨p,p1,p2,p3⟩:=d1z (n+4) ha hd;obtain ⟨q,q1,q2,q3⟩:=d1z (n+4) hc hb;rw[p1,obs,q1,obs,tft,tft]
 have hp:rowT (.int .i64) (p.1::(p.2.1::(p.2.2.1::(p.2.2.2.1::(p.2.2.2.2.1::(p.2.2.2.2.2.1::(p.2.2.2.2.2.2.1::(p.2.2.2.2.2.2.2.1::(p.2.2.2.2.2.2.2.2.1::(p.2.2.2.2.2.2.2.2.2.1::(p.2.2.2.2.2.2.2.2.2.2.1::(p.2.2.2.2.2.2.2.2.2.2.2.1::(p.2.2.2.2.2.2.2.2.2.2.2.2.1::(p.2.2.2.2.2.2.2.2.2.2.2.2.2.1::(p.2.2.2.2.2.2.2.2.2.2.2.2.2.2.1::(p.2.2.2.2.2.2.2.2.2.2.2.2.2.2.2.1::(p.2.2.2.2.2.2.2.2.2.2.2.2.2.2.2.2.1::(p.2.2.2.2.2.2.2.2.2.2.2.2.2.2.2.2.2.1::(p.2.2.2.2.2.2.2.2.2.2.2.2.2.2.2.2.2.2.1::(p.2.2.2.2.2.2.2.2.2.2.2.2.2.2.2.2.2.2.2.1::(p.2.2.2.2.2.2.2.2.2.2.2.2.2.2.2.2.2.2.2.2.1::(p.2.2.2.2.2.2.2.2.2.2.2.2.2.2.2.2.2.2.2.2.2.1::(p.2.2.2.2.2.2.2.2.2.2.2.2.2.2.2.2.2.2.2.2.2.2.1::(p.2.2.2.2.2.2.2.2.2.2.2.2.2.2.2.2.2.2.2.2.2.2.2.1::(p.2.2.2.2.2.2.2.2.2.2.2.2.2.2.2.2.2.2.2.2.2.2.2.2.1::(p.2.2.2.2.2.2.2.2.2.2.2.2.2.2.2.2.2.2.2.2.2.2.2.2.2.1::(p.2.2.2.2.2.2.2.2.2.2.2.2.2.2.2.2.2.2.2.2.2.2.2.2.2.2.1::(p.2.2.2.2.2.2.2.2.2.2.2.2.2.2.2.2.2.2.2.2.2.2.2.2.2.2.2.1::(p.2.2.2.2.2.2.2.2.2.2.2.2.2.2.2.2.2.2.2.2.2.2.2.2.2.2.2.2.1::(p.2.2.2.2.2.2.2.2.2.2.2.2.2.2.2.2.2.2.2.2.2.2.2.2.2.2.2.2.2.1::(p.2.2.2.2.2.2.2.2.2.2.2.2.2.2.2.2.2.2.2.2.2.2.2.2.2.2.2.2.2.2.1::(p.2.2.2.2.2.2.2.2.2.2.2.2.2.2.2.2.2.2.2.2.2.2.2.2.2.2.2.2.2.2.2::[])))))))))))))))))))))))))))))))) 32 0=some p:=r1t p
 have hq:rowT (.int .i64) (q.1::(q.2.1::(q.2.2.1::(q.2.2.2.1::(q.2.2.2.2.1::(q.2.2.2.2.2.1::(q.2.2.2.2.2.2.1::(q.2.2.2.2.2.2.2.1::(q.2.2.2.2.2.2.2.2.1::(q.2.2.2.2.2.2.2.2.2.1::(q.2.2.2.2.2.2.2.2.2.2.1::(q.2.2.2.2.2.2.2.2.2.2.2.1::(q.2.2.2.2.2.2.2.2.2.2.2.2.1::(q.2.2.2.2.2.2.2.2.2.2.2.2.2.1::(q.2.2.2.2.2.2.2.2.2.2.2.2.2.2.1::(q.2.2.2.2.2.2.2.2.2.2.2.2.2.2.2.1::(q.2.2.2.2.2.2.2.2.2.2.2.2.2.2.2.2.1::(q.2.2.2.2.2.2.2.2.2.2.2.2.2.2.2.2.2.1::(q.2.2.2.2.2.2.2.2.2.2.2.2.2.2.2.2.2.2.1::(q.2.2.2.2.2.2.2.2.2.2.2.2.2.2.2.2.2.2.2.1::(q.2.2.2.2.2.2.2.2.2.2.2.2.2.2.2.2.2.2.2.2.1::(q.2.2.2.2.2.2.2.2.2.2.2.2.2.2.2.2.2.2.2.2.2.1::(q.2.2.2.2.2.2.2.2.2.2.2.2.2.2.2.2.2.2.2.2.2.2.1::(q.2.2.2.2.2.2.2.2.2.2.2.2.2.2.2.2.2.2.2.2.2.2.2.1::(q.2.2.2.2.2.2.2.2.2.2.2.2.2.2.2.2.2.2.2.2.2.2.2.2.1::(q.2.2.2.2.2.2.2.2.2.2.2.2.2.2.2.2.2.2.2.2.2.2.2.2.2.1::(q.2.2.2.2.2.2.2.2.2.2.2.2.2.2.2.2.2.2.2.2.2.2.2.2.2.2.1::(q.2.2.2.2.2.2.2.2.2.2.2.2.2.2.2.2.2.2.2.2.2.2.2.2.2.2.2.1::(q.2.2.2.2.2.2.2.2.2.2.2.2.2.2.2.2.2.2.2.2.2.2.2.2.2.2.2.2.1::(q.2.2.2.2.2.2.2.2.2.2.2.2.2.2.2.2.2.2.2.2.2.2.2.2.2.2.2.2.2.1::(q.2.2.2.2.2.2.2.2.2.2.2.2.2.2.2.2.2.2.2.2.2.2.2.2.2.2.2.2.2.2.1::(q.2.2.2.2.2.2.2.2.2.2.2.2.2.2.2.2.2.2.2.2.2.2.2.2.2.2.2.2.2.2.2::[])))))))))))))))))))))))))))))))) 32 0=some q:=r1t q
 have hl:=less_l7 (n+6) (c1y 32 p) (c1y 32 q) p2 q2 32 a0b (by omega) (by unfold a0b;omega) ((List.drop_of_length_le (Nat.le_of_eq (c1y 32 p))).trans (List.drop_of_length_le (Nat.le_of_eq (c1y 32 q))).symm);rw[hp]
 erw [obs]
 rw[a1w (n+5) p p2,obs,hq]
 erw [obs]
 rw[a1w (n+5) q q2,obs,tfd,p3,q3];have cp:(340282366920938463463374607431768211456<=(a:Int)*d)↔¬a*d<340282366920938463463374607431768211456:=by rw[<-q3f];omega
 have cq:(340282366920938463463374607431768211456<=(c:Int)*b)↔¬c*b<340282366920938463463374607431768211456:=by rw[<-q3f];omega
 by_cases h3:a*d<340282366920938463463374607431768211456
 case neg=>rw[q0z (cp.2 h3),q0n (fun e:a*d<340282366920938463463374607431768211456/\c*b<340282366920938463463374607431768211456=>h3 e.1)]
 rw[q0n (fun k=>cp.1 k h3),tfd];by_cases h4:c*b<340282366920938463463374607431768211456
 case neg=>rw[q0z (cq.2 h4),q0n (fun e:a*d<340282366920938463463374607431768211456/\c*b<340282366920938463463374607431768211456=>h4 e.2)]
 rw[q0n (fun k=>cq.1 k h4),q0z ⟨h3,h4⟩]
 change a0a (l0x (n+6) a0b (tl 32 p,(tl 32 q,(((32:Nat):Int)-1,())))) _=_
 rw[hl,obs];by_cases h5:tl 32 p=tl 32 q
 ·rw[q0z h5,a0t];have:(a:Int)*d=(c:Int)*b:=by rw[<-p3,<-q3,h5]
  rw[<-q3f,<-q3f] at this;rw[q1z (by omega)]
 ·have e:decide (((a*d:Nat):Int)<((c*b:Nat):Int))=decide (a*d<c*b):=q2r.2 Int.ofNat_lt;rw[q0n h5,f0r,p3,q3,<-q3f,<-q3f,e]
end Go.Proofs.YteopnkdnglpbfaaGreatDoor
namespace Go.Proofs.YteopnkdnglpbfaaGreatDoor
open Go.Flat
theorem ob {α β:Type} {o:Option α} {x:α} {f:α->Option β} {r:Option β} (h:o=some x) (k:f x=r):a0a o f=r:=by rw[h];exact k
theorem tt {α:Type} {b:Bool} {x y r:α} (h:b=true) (k:x=r):tif b x y=r:=by rw[h];exact k
theorem tf {α:Type} {b:Bool} {x y r:α} (h:b=false) (k:y=r):tif b x y=r:=by rw[h];exact k
theorem b1l {α σ:Type} {g:Nat->σ->Option α} {c:Nat} {s:σ} {r:Option α} (k:g (a0b-c+c) s=r) (h:c<=a0b):g a0b s=r:=by rw[Nat.sub_add_cancel h] at k;exact k
end Go.Proofs.YteopnkdnglpbfaaGreatDoor
