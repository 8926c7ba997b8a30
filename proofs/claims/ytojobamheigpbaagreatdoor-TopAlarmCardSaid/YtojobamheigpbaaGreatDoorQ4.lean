/-
 Plain proofs about the functions of this seat, part 4 of 4.
-/
import Derived.Test.YtojobamheigpbaaGreatDoorQ3
import Derived.Test.YtojobamheigpbaaGreatDoorTr
import Derived.IntWalk
namespace Go.Proofs.YtojobamheigpbaaGreatDoor
open Go.Flat
theorem ob {α β:Type} {o:Option α} {x:α} {f:α→Option β} {r:Option β} (h:o=some x) (k:f x=r):a0a o f=r:=by rw[h];exact k
theorem tt {α:Type} {b:Bool} {x y r:α} (h:b=true) (k:x=r):tif b x y=r:=by rw[h];exact k
theorem tf {α:Type} {b:Bool} {x y r:α} (h:b=false) (k:y=r):tif b x y=r:=by rw[h];exact k
end Go.Proofs.YtojobamheigpbaaGreatDoor
namespace Go.Proofs.YtojobamheigpbaaGreatDoor
open Go.Flat
set_option linter.unusedVariables false
theorem b1t (n:Nat)  : k0b (n+1)  =
 a0a (r0z n ) fun r0 =>
 a0a (q1l n ) fun r1 =>
 a0a (m0f n r1) fun r2 =>
 tif ((!(decide (r2.2=(0:Int))))) (
 some false) (
 a0a (i0k n r0 ((((97:UInt8)::[]),[])::[]) ((3:Int),((1:Int),((0:Int),false)))) fun r3 =>
 a0a (n0m n r2.1 (5:Int) (41:Int)) fun r4 =>
 tif ((decide (r3.1=(0:Int)))) (
 a0a (w0j n r3.2 ((((97:UInt8)::[]),[])::[])) fun r5 =>
 tif ((decide (r5.1=(3:Int)))) (
 a0a (d0b n r5.2 ((((97:UInt8)::[]),[])::[]) (0:Int) (9:Int)) fun r6 =>
 tif ((decide (r6.1.1=(1:Int)))) (
 tif ((decide (r4.1=(1:Int)))) (
 tif ((decide (r4.2.1=(10:Int)))) (
 tif ((decide (r4.2.2.1=(40:Int)))) (
 some (decide (r4.2.2.2=(0:Int)))) (
 some false)) (
 some false)) (
 some false)) (
 some false)) (
 some false)) (
 some false)):=by kernel_rfl
theorem e1h (n:Nat):r0z (n+39)=some ([],[]):=by kernel_rfl
theorem e1g (n:Nat):q1l (n+39)=some (20,((10,(20,60)),((4,(5,6)),(3,9)))):=by kernel_rfl
theorem e1f (n:Nat):m0f (n+39) (20,((10,(20,60)),((4,(5,6)),(3,9))))=some (((20,((10,(20,60)),((4,(5,6)),(3,9)))),(0,((-1),[([],(0,((0,(0,[])),(([],([],[])),(0,(0,((0,(0,(0,false))),((0,(0,(0,false))),((0,0),(0,(0,0))))))))))),([],(0,((0,(0,[])),(([],([],[])),(0,(0,((0,(0,(0,false))),((0,(0,(0,false))),((0,0),(0,(0,0))))))))))),([],(0,((0,(0,[])),(([],([],[])),(0,(0,((0,(0,(0,false))),((0,(0,(0,false))),((0,0),(0,(0,0)))))))))))]))),0):=by kernel_rfl
theorem e1e (n:Nat):i0k (n+39) ([],[]) [([97],[])] (3,(1,(0,false)))=some (0,([[1,1,97,0]],[([1,1,97,0],([([97],[])],[(3,(1,(0,false)))]))])):=by kernel_rfl
theorem e1d (n:Nat):n0m (n+39) ((20,((10,(20,60)),((4,(5,6)),(3,9)))),(0,((-1),[([],(0,((0,(0,[])),(([],([],[])),(0,(0,((0,(0,(0,false))),((0,(0,(0,false))),((0,0),(0,(0,0))))))))))),([],(0,((0,(0,[])),(([],([],[])),(0,(0,((0,(0,(0,false))),((0,(0,(0,false))),((0,0),(0,(0,0))))))))))),([],(0,((0,(0,[])),(([],([],[])),(0,(0,((0,(0,(0,false))),((0,(0,(0,false))),((0,0),(0,(0,0)))))))))))]))) (5) (41)=some (1,(10,(40,0))):=by kernel_rfl
theorem e1c (n:Nat):w0j (n+39) ([[1,1,97,0]],[([1,1,97,0],([([97],[])],[(3,(1,(0,false)))]))]) [([97],[])]=some (3,([[1,1,97,0]],[([1,1,97,0],([([97],[])],[(3,(1,(0,false)))]))])):=by kernel_rfl
theorem e1b (n:Nat):d0b (n+39) ([[1,1,97,0]],[([1,1,97,0],([([97],[])],[(3,(1,(0,false)))]))]) [([97],[])] (0) (9)=some ((1,((3,(1,(0,false))),((3,(1,(0,false))),((0,0),(0,(0,0)))))),([[1,1,97,0]],[([1,1,97,0],([([97],[])],[(3,(1,(0,false)))]))])):=by kernel_rfl
theorem i0x (n:Nat):k0b (n+40)=some true:=by
 rw[b1t];refine ob (e1h n) ?_;refine ob (e1g n) ?_;refine ob (e1f n) ?_;refine tf (by kernel_rfl) ?_;refine ob (e1e n) ?_;refine ob (e1d n) ?_;refine tt (by kernel_rfl) ?_;refine ob (e1c n) ?_;refine tt (by kernel_rfl) ?_;refine ob (e1b n) ?_;refine tt (by kernel_rfl) ?_;refine tt (by kernel_rfl) ?_;refine tt (by kernel_rfl) ?_;refine tt (by kernel_rfl) ?_
 kernel_rfl
theorem b1s (n:Nat)  : s0t (n+1)  =
 a0a (q1l n ) fun r0 =>
 a0a (m0f n r0) fun r1 =>
 tif ((!(decide (r1.2=(0:Int))))) (
 some false) (
 a0a (s0s n r1.1 ((((((97:UInt8)::[]),[])::[]),((1:Int),((0:Int),(30:Int)))),(((0:Int),(0:Int)),((0:Int),(1:Int))))) fun r2 =>
 a0a (v1r n r1.1 (((((97:UInt8)::[]),[])::[]),((1:Int),((0:Int),(30:Int))))) fun r3 =>
 tif ((decide (r2.2=(12:Int)))) (
 tif ((r3.1==((48:UInt8)::((48:UInt8)::((48:UInt8)::[]))))) (
 some (decide (r3.2=(0:Int)))) (
 some false)) (
 some false)):=by kernel_rfl
theorem e1a (n:Nat):q1l (n+39)=some (20,((10,(20,60)),((4,(5,6)),(3,9)))):=by kernel_rfl
theorem d1z (n:Nat):m0f (n+39) (20,((10,(20,60)),((4,(5,6)),(3,9))))=some (((20,((10,(20,60)),((4,(5,6)),(3,9)))),(0,((-1),[([],(0,((0,(0,[])),(([],([],[])),(0,(0,((0,(0,(0,false))),((0,(0,(0,false))),((0,0),(0,(0,0))))))))))),([],(0,((0,(0,[])),(([],([],[])),(0,(0,((0,(0,(0,false))),((0,(0,(0,false))),((0,0),(0,(0,0))))))))))),([],(0,((0,(0,[])),(([],([],[])),(0,(0,((0,(0,(0,false))),((0,(0,(0,false))),((0,0),(0,(0,0)))))))))))]))),0):=by kernel_rfl
theorem d1y (n:Nat):s0s (n+39) ((20,((10,(20,60)),((4,(5,6)),(3,9)))),(0,((-1),[([],(0,((0,(0,[])),(([],([],[])),(0,(0,((0,(0,(0,false))),((0,(0,(0,false))),((0,0),(0,(0,0))))))))))),([],(0,((0,(0,[])),(([],([],[])),(0,(0,((0,(0,(0,false))),((0,(0,(0,false))),((0,0),(0,(0,0))))))))))),([],(0,((0,(0,[])),(([],([],[])),(0,(0,((0,(0,(0,false))),((0,(0,(0,false))),((0,0),(0,(0,0)))))))))))]))) (([([97],[])],(1,(0,30))),((0,0),(0,1)))=some (false,12):=by kernel_rfl
theorem d1x (n:Nat):v1r (n+39) ((20,((10,(20,60)),((4,(5,6)),(3,9)))),(0,((-1),[([],(0,((0,(0,[])),(([],([],[])),(0,(0,((0,(0,(0,false))),((0,(0,(0,false))),((0,0),(0,(0,0))))))))))),([],(0,((0,(0,[])),(([],([],[])),(0,(0,((0,(0,(0,false))),((0,(0,(0,false))),((0,0),(0,(0,0))))))))))),([],(0,((0,(0,[])),(([],([],[])),(0,(0,((0,(0,(0,false))),((0,(0,(0,false))),((0,0),(0,(0,0)))))))))))]))) ([([97],[])],(1,(0,30)))=some ([48,48,48],0):=by kernel_rfl
theorem a1r (n:Nat):s0t (n+40)=some true:=by
 rw[b1s];refine ob (e1a n) ?_;refine ob (d1z n) ?_;refine tf (by kernel_rfl) ?_;refine ob (d1y n) ?_;refine ob (d1x n) ?_;refine tt (by kernel_rfl) ?_;refine tt (by kernel_rfl) ?_
 kernel_rfl
end Go.Proofs.YtojobamheigpbaaGreatDoor
namespace Go.Proofs.YtojobamheigpbaaGreatDoor
open Go.Flat Go.Plim
set_option linter.unusedVariables false
set_option linter.unusedSimpArgs false
def valOf:List Lab→List UInt8→List UInt8
 | [],_=>[]
 | x::l,nm=>if (x.1==nm)=true then x.2 else valOf l nm
theorem l1k (nm:List UInt8):∀(A B:List Lab),(∀y∈A,(y.1==nm)=false)→valOf (A++B) nm=valOf B nm:=by
 intro A;induction A with
 | nil=>intro B _;rfl
 | cons x A ih =>
  intro B h;rw[List.cons_append,valOf,h x (by simp),if_neg (by decide),ih B fun y hy=>h y (by simp[hy])]
theorem e2u (nm:List UInt8) (l:List Lab) (h:∀y∈l,(y.1==nm)=false):valOf l nm=[]:=by
 have:=l1k nm l [] h;rw[List.append_nil] at this;rw[this];rfl
def hitM (m:Int×Lab) (l:List Lab):Bool :=
 if m.1=1 then valOf l m.2.1==m.2.2 else if m.1=2 then !(valOf l m.2.1==m.2.2) else if m.1=3 then decide (m.2.2.length≤(valOf l m.2.1).length)&&(List.take m.2.2.length (valOf l m.2.1)==m.2.2) else false
def z0q (ms:List (Int×Lab)) (l:List Lab):Bool:=ms.all fun m=>hitM m l
def MatR (m:Int×Lab):Prop:=1≤m.1∧m.1≤3∧LabOk [m.2]
def j1s (ms:List (Int×Lab)):Prop:=ms.length≤16∧∀m∈ms,MatR m
noncomputable instance (m:Int×Lab):Decidable (MatR m):=Classical.propDecidable _
noncomputable instance (ms:List (Int×Lab)):Decidable (j1s ms):=Classical.propDecidable _
theorem n2j (n:Nat) {del:Lab×Unit→Option Bool} {p:Lab→Bool} (hd:∀x,del (x,())=some (p x)) (l:List Lab) (hL:l.length≤1000000):∀(rest pre:List Lab) (f:Nat) (i len:Int),l=pre++rest→i=pre.length→len=l.length→rest.length<f →
  (c0k n f (l,del,len,i,())=some (.inl ())∧∀x∈rest,p x=false) ∨
  (∃A x B,rest=A++x::B∧(∀y∈A,p y=false)∧p x=true∧c0k n f (l,del,len,i,())=some (.inr (i+A.length))):=by
 intro rest;induction rest with
 | nil =>
  intro pre f i len hl hi hn hf;obtain ⟨f,rfl⟩:∃g,f=g+1:=⟨f-1,by simp at hf;omega⟩;rw[h0g];exact .inl ⟨by simp only[tfd,if_neg (idxe hl hi hn)],by simp⟩
 | cons x rest ih =>
  intro pre f i len hl hi hn hf;obtain ⟨f,rfl⟩:∃g,f=g+1:=⟨f-1,by simp at hf;omega⟩;rw[h0g];simp only[tfd,if_pos (idx hl hi hn),b0s hl hi,obs,hd,idxw hl hi (show l.length≤1000000000000 by omega)];cases hp:p x with
  | true=>exact .inr ⟨[],x,rest,rfl,by simp,hp,by simp⟩
  | false =>
   rw[tff];rcases ih (pre++[x]) f (i+1) len (idxl hl) (idxs hi) hn (by simp at hf;omega) with ⟨h1,h2⟩ | ⟨A,y,B,h1,h2,h3,h4⟩
   ·exact .inl ⟨h1,by intro z hz;rcases List.mem_cons.1 hz with rfl | hz;exact hp;exact h2 z hz⟩
   ·refine .inr ⟨x::A,y,B,by rw[h1];rfl,?_,h3,by rw[h4,List.length_cons,show i+1+(A.length:Int)=i+((A.length+1:Nat):Int) by omega]⟩;intro z hz;rcases List.mem_cons.1 hz with rfl | hz
    ·exact hp
    ·exact h2 z hz
theorem z1t (n:Nat) (l:List Lab) (hL:l.length≤1000000) (nm:List UInt8):x0e (n+2) l nm=some (valOf l nm):=by
 rw[k1v,s0y];rcases n2j n (del:=fun y0=>r0s (n+1) y0.1 nm) (p:=fun x=>x.1==nm) (fun x=>e1i n x nm) l hL l [] a0b 0 l.length rfl rfl rfl (by unfold a0b;omega) with ⟨h1,h2⟩ | ⟨A,x,B,h1,h2,h3,h4⟩
 ·rw[h1,e2u nm l h2];rfl
 ·rw[h4];simp only[obs,m0p];rw[decide_eq_false (by omega),tff,b0s h1 (by omega),obs,h1,l1k nm A _ h2,valOf,if_pos h3]
theorem h2q (n:Nat) (s p:List UInt8):strings_HasPrefix (n+2) s p=some (decide (p.length≤s.length)&&(List.take p.length s==p)):=by
 rw[v0p,p0i];by_cases h:p.length≤s.length
 ·rw[decide_eq_true (show ((p.length:Nat):Int)≤((s.length:Nat):Int) by omega),decide_eq_true (show (0:Int)≤((p.length:Nat):Int) by omega),decide_eq_true h,Int.toNat_natCast,List.drop_zero];rfl
 ·rw[decide_eq_false (show ¬((p.length:Nat):Int)≤((s.length:Nat):Int) by omega),decide_eq_false h];rfl
theorem g2w (n:Nat) (m:Int×Lab) (l:List Lab) (hL:l.length≤1000000):b1r (n+3) m l=some (hitM m l):=by
 rw[p1z,z1t n l hL,obs,tfd,tfd,tfd,h2q];unfold hitM;by_cases h1:m.1=1
 ·rw[if_pos h1,if_pos h1]
 rw[if_neg h1,if_neg h1];by_cases h2:m.1=2
 ·rw[if_pos h2,if_pos h2]
 rw[if_neg h2,if_neg h2];by_cases h3:m.1=3
 ·rw[if_pos h3,if_pos h3];rfl
 ·rw[if_neg h3,if_neg h3]
theorem n2i (n:Nat) {del:(Int×Lab)×Unit→Option Bool} {p:Int×Lab→Bool} (l:List (Int×Lab)) (hd:∀x∈l,del (x,())=some (p x)) (hL:l.length≤1000000):∀(rest pre:List (Int×Lab)) (f:Nat) (i len:Int),l=pre++rest→i=pre.length→len=l.length→rest.length<f →
  (c0c n f (l,del,len,i,())=some (.inl ())∧∀x∈rest,p x=false) ∨
  (∃k:Int,0≤k∧c0c n f (l,del,len,i,())=some (.inr k)∧∃x∈rest,p x=true):=by
 intro rest;induction rest with
 | nil =>
  intro pre f i len hl hi hn hf;obtain ⟨f,rfl⟩:∃g,f=g+1:=⟨f-1,by simp at hf;omega⟩;rw[g0i];exact .inl ⟨by simp only[tfd,if_neg (idxe hl hi hn)],by simp⟩
 | cons x rest ih =>
  intro pre f i len hl hi hn hf;obtain ⟨f,rfl⟩:∃g,f=g+1:=⟨f-1,by simp at hf;omega⟩;rw[g0i];simp only[tfd,if_pos (idx hl hi hn),b0s hl hi,obs,hd x (by rw[hl];simp),idxw hl hi (show l.length≤1000000000000 by omega)];cases hp:p x with
  | true=>exact .inr ⟨i,by omega,by simp,x,by simp,hp⟩
  | false =>
   rw[tff];rcases ih (pre++[x]) f (i+1) len (idxl hl) (idxs hi) hn (by simp at hf;omega) with ⟨h1,h2⟩ | ⟨k,h1,h2,y,hy,h3⟩
   ·exact .inl ⟨h1,by intro z hz;rcases List.mem_cons.1 hz with rfl | hz;exact hp;exact h2 z hz⟩
   ·exact .inr ⟨k,h1,h2,y,by simp[hy],h3⟩
theorem d1i (n:Nat) {del:(Int×Lab)×Unit→Option Bool} {p:Int×Lab→Bool} (l:List (Int×Lab)) (hd:∀x∈l,del (x,())=some (p x)) (hL:l.length≤1000000):c0x (n+2) l del=some (l.any p):=by
 rw[n0n,q0w];rcases n2i n l hd hL l [] a0b 0 l.length rfl rfl rfl (by unfold a0b;omega) with ⟨h1,h2⟩ | ⟨k,h1,h2,x,hx,h3⟩
 ·rw[h1];have:l.any p=false:=by rw[List.any_eq_false];intro x hx;simp[h2 x hx]
  rw[this];rfl
 ·rw[h2];have:l.any p=true:=List.any_eq_true.2 ⟨x,hx,h3⟩;simp[this,h1]
theorem z0j (n:Nat) (ms:List (Int×Lab)) (hm:ms.length≤1000000) (l:List Lab) (hL:l.length≤1000000):z0k (n+5) ms l=some (z0q ms l):=by
 rw[v1h,d1i (n+2) (p:=fun m => !hitM m l) ms (fun m _=>by
  show x0d (n+3+1) m l=_
  rw[k1r,g2w n m l hL];rfl) hm,obs]
 refine congrArg some ?_;unfold z0q;rw[List.any_eq_not_all_not];simp
theorem i1h (n:Nat) (m:Int×Lab) (h0:0≤m.1):x0b (n+7) m=some (decide (MatR m)):=by
 rw[k1p,g0y n,obs,tfn,tfd,tfd];have e1:MatR m→1≤m.1:=fun k=>k.1
 have e2:MatR m→m.1≤3:=fun k=>k.2.1
 by_cases h1:m.1=0
 ·rw[if_pos h1,decide_eq_false (fun k=>by have:=e1 k;omega)]
 rw[if_neg h1];by_cases h2:m.1<4
 case neg=>rw[if_neg h2,decide_eq_false (fun k=>by have:=e2 k;omega)]
 rw[if_pos h2];by_cases h3:LabOk [m.2]
 ·rw[if_pos h3,decide_eq_true (show MatR m from ⟨by omega,by omega,h3⟩)];rfl
 ·rw[if_neg h3,decide_eq_false (fun k:MatR m=>h3 k.2.2)];rfl
theorem i1i (n:Nat) (ms:List (Int×Lab)) (hm:ms.length≤1000000) (hk:∀m∈ms,0≤m.1):x0c (n+10) ms=some (if j1s ms then 0 else 2):=by
 rw[k1q,tfd];have e0:j1s ms→ms.length≤16:=fun k=>k.1
 by_cases h1:16<ms.length
 ·rw[if_pos (by omega),if_neg (fun k=>by have:=e0 k;omega)]
 rw[if_neg (by omega),d1i (n+7) (p:=fun m => !decide (MatR m)) ms (fun m h=>by
  show r0q (n+8+1) m=_
  rw[d1w,i1h (n+1) m (hk m h)];rfl) hm,obs]
 by_cases h:∀m∈ms,MatR m
 ·rw[if_pos (show j1s ms from ⟨by omega,h⟩),List.any_eq_false.2 (fun m hm=>by simp[h m hm])];rfl
 ·rw[if_neg (fun k:j1s ms=>h k.2)];have:∃m∈ms,¬MatR m:=Classical.byContradiction fun k=>h fun x hx=>Classical.byContradiction fun q=>k ⟨x,hx,q⟩
  obtain ⟨m,hm,q⟩:=this;rw[List.any_eq_true.2 ⟨m,hm,by simp[q]⟩];rfl
end Go.Proofs.YtojobamheigpbaaGreatDoor

namespace Go.Plim
set_option linter.unusedVariables false
variable {α:Type}
def Stb (key:α→Int) (d' d:List α):Prop:=∀c:Int,(d'.filter fun x=>decide (key x=c))=d.filter fun x=>decide (key x=c)
structure Mvk (key:α→Int) (d d':List α) (a b:Nat):Prop where
 mv:Mv d d' a b
 st:Stb key d' d
theorem Mvk.perm {key:α→Int} {d d':List α} {a b:Nat} (h:Mvk key d d' a b):d'.Perm d:=h.mv.perm
theorem Mvk.out {key:α→Int} {d d':List α} {a b:Nat} (h:Mvk key d d' a b):∀i,(i<a∨b≤i)→d'[i]? = d[i]? := h.mv.out
theorem Mvk.len {key:α→Int} {d d':List α} {a b:Nat} (h:Mvk key d d' a b):d'.length=d.length:=h.mv.len
theorem Mvk.refl {key:α→Int} (d:List α) (a b:Nat):Mvk key d d a b:=⟨.refl _ _ _,fun _=>rfl⟩
theorem Mvk.trans {key:α→Int} {d d' d'':List α} {a b:Nat} (h:Mvk key d d' a b) (g:Mvk key d' d'' a b):Mvk key d d'' a b:=⟨h.mv.trans g.mv,fun c=>(g.st c).trans (h.st c)⟩
theorem Mvk.mono {key:α→Int} {d d':List α} {a b a' b':Nat} (h:Mvk key d d' a b) (ha:a'≤a) (hb:b≤b'):Mvk key d d' a' b':=⟨h.mv.mono ha hb,h.st⟩
theorem Mvk.all {key:α→Int} {d d':List α} {a b:Nat} {P:α→Prop} (h:Mvk key d d' a b) (hP:∀x∈d,P x):∀x∈d',P x:=fun x hx=>hP x (h.perm.mem_iff.1 hx)
end Go.Plim

namespace Go.Plim
set_option linter.unusedVariables false
variable {α:Type}
inductive Sel (key:α→Int):List α→List α→Prop
 | nil:Sel key [] []
 | step {A B:List α} {x:α} {out:List α} (hA:∀a∈A,key x<key a) (hB:∀b∈B,key x≤key b) (h:Sel key (A++B) out):Sel key (A++x::B) (x::out)
theorem Sel.perm {key:α→Int} {l out:List α} (h:Sel key l out):out.Perm l:=by
 induction h with
 | nil=>exact .refl _
 | step hA hB h ih=>exact (List.Perm.cons _ ih).trans List.perm_middle.symm
def rem:List α→List Bool→List α
 | x::l,d::ds=>if d=true then rem l ds else x::rem l ds
 | _,_=>[]
end Go.Plim

namespace Go.Proofs.YtojobamheigpbaaGreatDoor
open Go.Flat Go.Plim
set_option linter.unusedVariables false
set_option linter.unusedSimpArgs false
abbrev Mat:=Int×(List UInt8×List UInt8)
abbrev Rpl:=Int×(Cel×((Wd×Wd)×Int))
abbrev Prt:=List Lab×Rpl
abbrev Tot:=Int×(Int×(Int×(Wd×(Int×(Int×Int)))))
def tz0:Tot:=(0,(0,(0,((0,0),(0,(0,0))))))
noncomputable def partOf (s:Sta) (ms:List Mat) (k a b:Int) (i:Nat):Option Prt :=
 match s.2.2.2[i]? with
 | some x=>if z0q ms x.1=true∧0<(doQ s x.1 k a b).1.2.1.1 then some (x.1,(doQ s x.1 k a b).1) else none
 | none=>none
noncomputable def m0v (s:Sta) (ms:List Mat) (k a b:Int):List Prt:=(g0c s).filterMap (partOf s ms k a b)
noncomputable def i0t (s:Sta) (ms:List Mat) (t a b:Int):List Prt×(Int×Int) :=
 if StaOk s then (if j1s ms then (if (b0q s t a b).2=0 then (m0v s ms (b0q s t a b).1 a b,((b0q s t a b).1,0)) else ([],(0,(b0q s t a b).2))) else ([],(0,2))) else ([],(0,2))
theorem f2d {s:Sta} {t a b:Int} (h:(b0q s t a b).2=0):b0q s (b0q s t a b).1 a b=((b0q s t a b).1,0):=by
 obtain ⟨hs,t1,t3,ho,_⟩:=o1c h;generalize (b0q s t a b).1=k at *
 unfold b0q;rw[if_pos hs,if_neg (by omega),if_neg (by omega),if_pos ho]
theorem a2j {s:Sta} (hs:StaOk s) {l:List Lab} (hl:LabOk l) {t a b:Int} (h:(b0q s t a b).2=0):(doQ s l (b0q s t a b).1 a b).2=0:=by
 unfold doQ;rw[if_pos hs,if_pos hl,f2d h,if_pos rfl]
theorem c2x {s:Sta} (hs:StaOk s) {i:Nat} (hi:i∈g0c s):∃x,s.2.2.2[i]? = some x∧LvX s x∧LabOk x.1:=by
 unfold g0c at hi;obtain ⟨h1,h2⟩:=List.mem_filter.1 hi;unfold lvAt at h2;cases hx:s.2.2.2[i]? with
 | none=>rw[hx] at h2;cases h2
 | some x =>
  rw[hx] at h2;have hl:LvX s x:=of_decide_eq_true h2;exact ⟨x,rfl,hl,(q1d hs (List.mem_of_getElem? hx) hl).1.lab⟩
theorem m1i (s:Sta) (ms:List Mat) (k a b:Int):(m0v s ms k a b).length≤(g0c s).length:=List.length_filterMap_le _ _
theorem n1u (n:Nat) {s:Sta} (hw:StaW s) (hs:StaOk s) (ms:List Mat) (hm:ms.length≤1000000) {t a b:Int} (ht:(b0q s t a b).2=0) (L:List Nat) (hL:L.length≤1000000) (hin:∀i∈L,i∈g0c s):∀(rest pre:List Nat) (out:List Prt) (f:Nat) (ix len:Int),L=pre++rest→ix=pre.length→len=L.length→rest.length<f→out.length≤pre.length →
  e0z (n+24) f (ms,a,b,s,(b0q s t a b).1,out,L.map Int.ofNat,len,ix,())=some (.inl ((b0q s t a b).1,out++rest.filterMap (partOf s ms (b0q s t a b).1 a b),())):=by
 intro rest;induction rest with
 | nil =>
  intro pre out f ix len hl hi hn hf ho;obtain ⟨f,rfl⟩:∃g,f=g+1:=⟨f-1,by simp at hf;omega⟩;rw[p0c,decide_eq_false (idxe hl hi hn),tff];simp
 | cons x rest ih =>
  intro pre out f ix len hl hi hn hf ho;obtain ⟨f,rfl⟩:∃g,f=g+1:=⟨f-1,by simp at hf;omega⟩;have hxi:=hin x (by rw[hl];simp);obtain ⟨y,hy,hlv,hlab⟩:=c2x hs hxi;have hlen:=congrArg List.length hl;simp only[List.length_append,List.length_cons] at hlen;have hlm:L.map Int.ofNat=pre.map Int.ofNat++(x:Int)::rest.map Int.ofNat:=by rw[hl];simp
  have him:ix=((pre.map Int.ofNat).length:Int):=by rw[List.length_map];exact hi
  have next:=fun out' ho'=>ih (pre++[x]) out' f (ix+1) len (idxl hl) (idxs hi) hn (by simp at hf;omega) ho'
  rw[p0c,decide_eq_true (idx hl hi hn),tft,b0s hlm him,obs,q1r hlm him,obs,e1p hy,obs,z0j (n+19) ms hm y.1 (by have:=hlab.n1;omega),obs,idxw hl hi (by omega),tfn,tif_ite];have hp:partOf s ms (b0q s t a b).1 a b x=if z0q ms y.1=true∧0<(doQ s y.1 (b0q s t a b).1 a b).1.2.1.1 then some (y.1,(doQ s y.1 (b0q s t a b).1 a b).1) else none:=by
   unfold partOf;simp only[hy]
  by_cases h1:z0q ms y.1=true
  case neg =>
   rw[if_neg h1,next out (by simp;omega),List.filterMap_cons_none (by rw[hp,if_neg fun e=>h1 e.1])]
  rw[if_pos h1,y0z n hw,obs];simp only;rw[a2j hs hlab ht];simp only[decide_true,Bool.not_true,tff];rw[tfd];by_cases h2:0<(doQ s y.1 (b0q s t a b).1 a b).1.2.1.1
  case neg =>
   rw[if_neg h2,next out (by simp;omega),List.filterMap_cons_none (by rw[hp,if_neg fun e=>h2 e.2])]
  rw[if_pos h2,decide_eq_true (show (out.length+1)*184≤140737488355328 by omega),tft,next _ (by simp;omega),List.filterMap_cons_some (by rw[hp,if_pos ⟨h1,h2⟩]),List.append_assoc];rfl
theorem c2y {s:Sta} (h:StaOk s):z1s s=(g0c s).map Int.ofNat:=if_pos h.whole
theorem i1l {s:Sta} (h:StaOk s):(g0c s).length≤65536:=by
 have:=z1r s;rw[c2y h,List.length_map] at this;exact this
theorem s1x (n:Nat) {s:Sta} (hw:StaW s) (ms:List Mat) (hm:ms.length≤1000000) (hk:∀m∈ms,0≤m.1) (t a b:Int):w0q (n+25) s ms t a b=some (i0t s ms t a b):=by
 rw[j1y,e0w (n+10) hw,obs];unfold i0t;by_cases h:StaOk s
 case neg=>rw[if_neg h,if_neg h];rfl
 rw[if_pos h,if_pos h,i1i (n+14) ms hm hk];simp only[decide_true,Bool.not_true,tff,obs];by_cases h2:j1s ms
 case neg=>rw[if_neg h2,if_neg h2];rfl
 rw[if_pos h2,if_pos h2,m1f (n+5) hw];simp only[decide_true,Bool.not_true,tff,obs,tfn,tfd];by_cases ht:(b0q s t a b).2=0
 case neg=>rw[if_neg ht,if_neg ht]
 have hL:=i1l h;rw[if_pos ht,if_pos ht,o1k (n+16) hw,obs,c2y h];have:=n1u n hw h ms hm ht (g0c s) (by omega) (fun _ hi=>hi) (g0c s) [] [] a0b 0 _ rfl rfl rfl (by unfold a0b;omega) (Nat.le_refl _);rw[List.nil_append] at this;rw[List.length_map,this,obs,a0w];rfl
theorem g2l (s:Sta) (ms:List Mat) (t a b:Int):(i0t s ms t a b).1.length≤65536:=by
 unfold i0t;split
 ·rename_i h;split
  ·split
   ·exact Nat.le_trans (m1i _ _ _ _ _) (i1l h)
   ·simp
  ·simp
 ·simp
theorem d2q (s:Sta) (l:List Lab) (t a b:Int):b0h (doQ s l t a b).1.2.1:=by
 unfold doQ;by_cases h1:StaOk s
 case neg=>rw[if_neg h1];exact p0t
 rw[if_pos h1];by_cases h2:LabOk l
 case neg=>rw[if_neg h2];exact p0t
 rw[if_pos h2];by_cases h3:(b0q s t a b).2=0
 case neg=>rw[if_neg h3];exact p0t
 rw[if_pos h3];exact s1a _ _ _ _ _
theorem partsV_w (s:Sta) (ms:List Mat) (t a b:Int):∀p∈(i0t s ms t a b).1,b0h p.2.2.1:=by
 intro p hp;unfold i0t at hp;split at hp
 ·rename_i h;split at hp
  ·split at hp
   ·obtain ⟨i,_,hi⟩:=List.mem_filterMap.1 hp;unfold partOf at hi;split at hi
    ·split at hi
     ·cases hi;simp only;exact d2q _ _ _ _ _
     ·cases hi
    ·cases hi
   ·cases hp
  ·cases hp
 ·cases hp
def addT (a b:Tot):Tot×Int :=
 if a.1=b.1 then (if (addW a.2.2.2.1 b.2.2.2.1).2=0 then ((a.1,(IntKind.wrap .i64 (a.2.1+b.2.1),(IntKind.wrap .i64 (a.2.2.1+b.2.2.1),((addW a.2.2.2.1 b.2.2.2.1).1,(IntKind.wrap .i64 (a.2.2.2.2.1+b.2.2.2.2.1),(IntKind.wrap .i64 (a.2.2.2.2.2.1+b.2.2.2.2.2.1),IntKind.wrap .i64 (a.2.2.2.2.2.2+b.2.2.2.2.2.2))))))),0)
  else (tz0,(addW a.2.2.2.1 b.2.2.2.1).2)) else (tz0,2)
theorem j2u (n:Nat) {a b:Tot} (ha:WdOk a.2.2.2.1) (hb:WdOk b.2.2.2.1):x0v (n+3) a b=some (addT a b):=by
 rw[t1a,tfn,tfd];unfold addT;by_cases h:a.1=b.1
 case neg=>rw[if_neg h,if_neg h];rfl
 rw[if_pos h,if_pos h,n1n n ha hb,obs,tfn,tfd];by_cases h2:(addW a.2.2.2.1 b.2.2.2.1).2=0
 ·rw[if_pos h2,if_pos h2]
 ·rw[if_neg h2,if_neg h2];rfl
theorem addW_ok {a b:Wd} (ha:WdOk a) (hb:WdOk b):WdOk (addW a b).1:=by
 have:=h0v ha;have:=h0v hb;unfold addW;split
 ·exact m1r (by omega) (by omega)
 ·exact ⟨by simp,by simp⟩
theorem addT_w {a b:Tot} (ha:WdOk a.2.2.2.1) (hb:WdOk b.2.2.2.1):WdOk (addT a b).1.2.2.2.1:=by
 unfold addT;split
 ·split
  ·exact addW_ok ha hb
  ·exact ⟨by simp[tz0],by simp[tz0]⟩
 ·exact ⟨by simp[tz0],by simp[tz0]⟩
def oneT (k:Int) (c:Cel):Tot:=(k,(1,(c.1,c.2.2.2)))
def sumT (k:Int):Tot→List Prt→Tot×Int
 | t,[]=>(t,0)
 | t,p::r=>if (addT t (oneT k p.2.2.1)).2=0 then sumT k (addT t (oneT k p.2.2.1)).1 r else (tz0,(addT t (oneT k p.2.2.1)).2)
theorem cell_wd {c:Cel} (h:b0h c):WdOk c.2.2.2.1:=(g0z h).1
theorem e2y (n:Nat) (s10:Tot) (k:Int) (l:List Prt) (hL:l.length≤1000000) (hok:∀p∈l,b0h p.2.2.1):∀(rest pre:List Prt) (t:Tot) (f:Nat) (i len:Int),l=pre++rest→i=pre.length→len=l.length→rest.length<f→WdOk t.2.2.2.1 →
  l0w (n+3) f (s10,k,t,l,len,i,())=some (if (sumT k t rest).2=0 then .inl (s10,(sumT k t rest).1,()) else .inr (tz0,(sumT k t rest).2)):=by
 intro rest;induction rest with
 | nil =>
  intro pre t f i len hl hi hn hf ht;obtain ⟨f,rfl⟩:∃g,f=g+1:=⟨f-1,by simp at hf;omega⟩;rw[v0y,decide_eq_false (idxe hl hi hn),tff];rfl
 | cons x rest ih =>
  intro pre t f i len hl hi hn hf ht;obtain ⟨f,rfl⟩:∃g,f=g+1:=⟨f-1,by simp at hf;omega⟩;have hx:WdOk (oneT k x.2.2.1).2.2.2.1:=cell_wd (hok x (by rw[hl];simp));rw[v0y,decide_eq_true (idx hl hi hn),tft,b0s hl hi,obs,q1r hl hi,obs,s1y,obs]
  change a0a (x0v (n+3) t (oneT k x.2.2.1)) _=_
  rw[j2u n ht hx,obs,tfn,tfd,idxw hl hi (by omega)];unfold sumT;by_cases h:(addT t (oneT k x.2.2.1)).2=0
  ·rw[if_pos h,if_pos h,ih (pre++[x]) _ f (i+1) len (idxl hl) (idxs hi) hn (by simp at hf;omega) (addT_w ht hx)]
  ·rw[if_neg h,if_neg h,if_neg h];rfl
noncomputable def totV (s:Sta) (ms:List Mat) (t a b:Int):Tot×Int :=
 if (i0t s ms t a b).2.2=0 then sumT (i0t s ms t a b).2.1 ((i0t s ms t a b).2.1,(0,(0,((0,0),(0,(0,0)))))) (i0t s ms t a b).1 else (tz0,(i0t s ms t a b).2.2)
theorem b2p (k:Int):∀(l:List Prt) (t:Tot),(sumT k t l).2≠0→(sumT k t l).1=tz0:=by
 intro l;induction l with
 | nil=>intro t h;exact (h rfl).elim
 | cons p l ih =>
  intro t h;unfold sumT at h ⊢;split at h
  ·rename_i k1;rw[if_pos k1];exact ih _ h
  ·rename_i k1;rw[if_neg k1]
theorem total_do (n:Nat) {s:Sta} (hw:StaW s) (ms:List Mat) (hm:ms.length≤1000000) (hk:∀m∈ms,0≤m.1) (t a b:Int):n1v (n+26) s ms t a b=some (totV s ms t a b):=by
 rw[x1g,s1x n hw ms hm hk,obs,tfn,tfd];unfold totV;have hl:=g2l s ms t a b;have hok:=partsV_w s ms t a b;by_cases h:(i0t s ms t a b).2.2=0
 case neg=>rw[if_neg h,if_neg h];rfl
 rw[if_pos h,if_pos h];generalize i0t s ms t a b=p at *
 have:=e2y (n+22) tz0 p.2.1 p.1 (by omega) hok p.1 [] (p.2.1,(0,(0,((0,0),(0,(0,0)))))) a0b 0 _ rfl rfl rfl (by unfold a0b;omega) ⟨by simp,by simp⟩
 change a0a (l0w (n+25) a0b (tz0,p.2.1,(p.2.1,(0,(0,((0,0),(0,(0,0)))))),p.1,(p.1.length:Int),0,())) _=_
 rw[this,obs];generalize hz:sumT p.2.1 (p.2.1,(0,(0,((0,0),(0,(0,0)))))) p.1=z;have herr:=b2p p.2.1 p.1 (p.2.1,(0,(0,((0,0),(0,(0,0))))));rw[hz] at herr;by_cases h2:z.2=0
 ·rw[if_pos h2,a0w];exact congrArg some (Prod.ext rfl h2.symm)
 ·rw[if_neg h2,m0p];exact congrArg some (Prod.ext (herr h2).symm rfl)
def sm (f:Cel→Int) (l:List Prt):Int:=(l.map fun p=>f p.2.2.1).sum
theorem k2p (f:Cel→Int) (p:Prt) (l:List Prt):sm f (p::l)=f p.2.2.1+sm f l:=by simp[sm]
theorem sm_nil (f:Cel→Int):sm f []=0:=rfl
theorem q0u {f:Cel→Int} {B:Int}:∀ {l:List Prt},(∀p∈l,0≤f p.2.2.1∧f p.2.2.1≤B)→0≤sm f l∧sm f l≤(l.length:Int)*B:=by
 intro l;induction l with
 | nil=>intro _;simp[sm_nil]
 | cons p l ih =>
  intro h;obtain ⟨h1,h2⟩:=h p (by simp);obtain ⟨i1,i2⟩:=ih fun q hq=>h q (by simp[hq])
  rw[k2p,List.length_cons,show ((l.length+1:Nat):Int)=(l.length:Int)+1 by omega,Int.add_mul,Int.one_mul];omega
def fE (c:Cel):Int:=c.1
def fI (c:Cel):Int:=wv c.2.2.2.1
def fR (c:Cel):Int:=c.2.2.2.2.1
def fG (c:Cel):Int:=c.2.2.2.2.2.1
def fS (c:Cel):Int:=c.2.2.2.2.2.2
theorem g0x {c:Cel} (h:b0h c):(0≤fE c∧fE c≤35184372088832)∧(0≤fI c∧fI c≤18446744073709551615*35184372088832)∧(0≤fR c∧fR c≤35184372088832)∧(0≤fG c∧fG c≤35184372088832)∧(0≤fS c∧fS c≤35184372088832):=by
 rcases h with rfl | h
 ·simp[fE,fI,fR,fG,fS,z0,wv]
 ·have h1:=h.n1;have h2:=h.small;have h3:=h.inc;have h4:=(h0v h.w).1;have h5:=h.r;have h6:=h.g;have h7:=h.rg;have h8:=h.s0;have h9:=h.s1;have h10:=h.f.t0;have h11:=h.l.t1;unfold fE fI fR fG fS;omega
def totS (k:Int) (l:List Prt):Tot:=(k,((l.length:Int),(sm fE l,(mkW (sm fI l),(sm fR l,(sm fG l,sm fS l))))))
theorem sumT_acc (k:Int):∀(l:List Prt) (n e i r g s:Int),(∀p∈l,b0h p.2.2.1)→0≤n→n+l.length≤65536→0≤e→e+(l.length:Int)*35184372088832≤65536*35184372088832→0≤i→i+(l.length:Int)*(18446744073709551615*35184372088832)≤65536*(18446744073709551615*35184372088832) →
  0≤r→r+(l.length:Int)*35184372088832≤65536*35184372088832→0≤g→g+(l.length:Int)*35184372088832≤65536*35184372088832→0≤s→s+(l.length:Int)*35184372088832≤65536*35184372088832 →
  sumT k (k,(n,(e,(mkW i,(r,(g,s)))))) l=((k,(n+l.length,(e+sm fE l,(mkW (i+sm fI l),(r+sm fR l,(g+sm fG l,s+sm fS l)))))),0):=by
 intro l;induction l with
 | nil=>intro n e i r g s _ _ _ _ _ _ _ _ _ _ _ _ _;simp[sumT,sm_nil]
 | cons p l ih =>
  intro n e i r g s h n0 n1 e0 e1 i0 i1 r0 r1 g0 g1 s0 s1;obtain ⟨⟨c1,c2⟩,⟨c3,c4⟩,⟨c5,c6⟩,⟨c7,c8⟩,⟨c9,c10⟩⟩:=g0x (h p (by simp));rw[List.length_cons,show ((l.length+1:Nat):Int)=(l.length:Int)+1 by omega] at n1 e1 i1 r1 g1 s1;have hl:(0:Int)≤l.length:=by omega
  have hadd:addT (k,(n,(e,(mkW i,(r,(g,s)))))) (oneT k p.2.2.1)=((k,(n+1,(e+fE p.2.2.1,(mkW (i+fI p.2.2.1),(r+fR p.2.2.1,(g+fG p.2.2.1,s+fS p.2.2.1)))))),0):=by
   unfold addT oneT;have ew:addW (mkW i) p.2.2.1.2.2.2.1=(mkW (i+fI p.2.2.1),0):=by
    unfold addW;rw[c1p];show (if i+fI p.2.2.1<_ then _ else _)=_;rw[if_pos (by omega)];rfl
   simp only[if_pos trivial,ew];rw[w64 (x:=n+1) (by omega) (by omega)];show ((k,(n+1,(IntKind.wrap .i64 (e+fE p.2.2.1),(mkW (i+fI p.2.2.1),(IntKind.wrap .i64 (r+fR p.2.2.1),(IntKind.wrap .i64 (g+fG p.2.2.1),IntKind.wrap .i64 (s+fS p.2.2.1))))))),(0:Int))=_;rw[w64 (x:=e+fE p.2.2.1) (by omega) (by omega),w64 (x:=r+fR p.2.2.1) (by omega) (by omega),w64 (x:=g+fG p.2.2.1) (by omega) (by omega),w64 (x:=s+fS p.2.2.1) (by omega) (by omega)]
  unfold sumT;rw[hadd,if_pos rfl];simp only;rw[ih (n+1) (e+fE p.2.2.1) (i+fI p.2.2.1) (r+fR p.2.2.1) (g+fG p.2.2.1) (s+fS p.2.2.1) (fun q hq=>h q (by simp[hq])) (by omega) (by omega) (by omega) (by omega) (by omega) (by omega) (by omega) (by omega) (by omega) (by omega) (by omega) (by omega)];simp only[k2p,List.length_cons];rw[show n+1+(l.length:Int)=n+((l.length+1:Nat):Int) by omega,Int.add_assoc,Int.add_assoc,Int.add_assoc,Int.add_assoc,Int.add_assoc]
theorem sumT_sum (k:Int) (l:List Prt) (h:∀p∈l,b0h p.2.2.1) (hl:l.length≤65536):sumT k (k,(0,(0,((0,0),(0,(0,0)))))) l=(totS k l,0):=by
 have:=sumT_acc k l 0 0 0 0 0 0 h (by omega) (by omega) (by omega) (by omega) (by omega) (by omega) (by omega) (by omega) (by omega) (by omega) (by omega) (by omega);rw[c2o] at this;rw[this];unfold totS;simp only[Int.zero_add]
theorem parts_ok (s:Sta) (ms:List Mat) (k a b:Int):∀p∈m0v s ms k a b,b0h p.2.2.1:=by
 intro p hp;obtain ⟨i,_,hi⟩:=List.mem_filterMap.1 hp;unfold partOf at hi;split at hi
 ·split at hi
  ·cases hi;simp only;exact d2q _ _ _ _ _
  ·cases hi
 ·cases hi
theorem j2v {s:Sta} {ms:List Mat} {t a b:Int} (hs:StaOk s) (hm:j1s ms) (ht:(b0q s t a b).2=0):totV s ms t a b=(totS (b0q s t a b).1 (m0v s ms (b0q s t a b).1 a b),0):=by
 have e:i0t s ms t a b=(m0v s ms (b0q s t a b).1 a b,((b0q s t a b).1,0)):=by
  unfold i0t;rw[if_pos hs,if_pos hm,if_pos ht]
 unfold totV;rw[e,if_pos rfl];exact sumT_sum _ _ (parts_ok _ _ _ _ _) (Nat.le_trans (m1i _ _ _ _ _) (i1l hs))
theorem totV_err {s:Sta} {ms:List Mat} {t a b:Int} (hs:StaOk s) (hm:j1s ms) (ht:(b0q s t a b).2≠0):totV s ms t a b=(tz0,(b0q s t a b).2):=by
 unfold totV i0t;rw[if_pos hs,if_pos hm,if_neg ht,if_neg ht]
theorem l2m {l m:List Int} (h:l.Perm m):l.sum=m.sum:=by
 induction h with
 | nil=>rfl
 | cons x _ ih=>simp[ih]
 | swap x y l=>simp;omega
 | trans _ _ h1 h2=>exact h1.trans h2
noncomputable def i0q (ms:List Mat) (a b:Int) (p:List Lab×List Ev):Option (List Lab×Cel) :=
 if z0q ms p.1=true∧0<(cellOf (p.2.filter (inR a b))).1 then some (p.1,cellOf (p.2.filter (inR a b))) else none
theorem n0j {ms:List Mat} {a b:Int} {p:List Lab×List Ev} {q:List Lab×Cel}:i0q ms a b p=some q↔(z0q ms p.1=true∧0<(cellOf (p.2.filter (inR a b))).1)∧q=(p.1,cellOf (p.2.filter (inR a b))):=by
 unfold i0q;split
 ·rename_i h;simp[h];exact eq_comm
 ·rename_i h;simp[h]
theorem w0y {N:Nat} {s:Sta} {B:Bk} (h:BkInv N s B) {ms:List Mat} {t a b:Int} (ht:(b0q s t a b).2=0) {i:Nat} (hi:i∈g0c s) {q:Prt} (hq:partOf s ms (b0q s t a b).1 a b i=some q) :
  ∃x,s.2.2.2[i]? = some x∧LvX s x∧q.1=x.1∧q.2.2.1=cellOf ((evsB B x.1).filter (inR a b))∧z0q ms x.1=true∧0<q.2.2.1.1:=by
 obtain ⟨x,hx,hl,hlab⟩:=c2x h.ok hi;unfold partOf at hq;rw[hx] at hq;simp only at hq;split at hq
 case isFalse=>cases hq
 rename_i hc;injection hq with hq;subst hq;have hd:=a2j h.ok hlab ht;exact ⟨x,hx,hl,rfl,t0w h hd,hc.1,hc.2⟩
theorem g2k {N:Nat} {s:Sta} {B:Bk} (h:BkInv N s B) {ms:List Mat} {t a b:Int} (ht:(b0q s t a b).2=0) :
  ((m0v s ms (b0q s t a b).1 a b).map fun p=>(p.1,p.2.2.1)).Perm (B.filterMap (i0q ms a b)):=by
 have hmem:∀q,q∈((m0v s ms (b0q s t a b).1 a b).map fun p=>(p.1,p.2.2.1))↔q∈B.filterMap (i0q ms a b):=by
  intro q;constructor
  ·intro hq;obtain ⟨p,hp,rfl⟩:=List.mem_map.1 hq;unfold m0v at hp;obtain ⟨i,hi,hpi⟩:=List.mem_filterMap.1 hp;obtain ⟨x,hx,hl,e1,e2,e3,e4⟩:=w0y h ht hi hpi;obtain ⟨y,l,old,h1,h2,h3,h4,h5,h6⟩:=h.one hx hl;refine List.mem_filterMap.2 ⟨_,h5,n0j.2 ⟨⟨e3,?_⟩,?_⟩⟩
   ·rw[e2,l0g h.nd h5] at e4;exact e4
   ·rw[e1,e2,l0g h.nd h5]
  ·intro hq;obtain ⟨p,hp,hpq⟩:=List.mem_filterMap.1 hq;obtain ⟨⟨c1,c2⟩,rfl⟩:=n0j.1 hpq;obtain ⟨l,es⟩:=p;have hev:=l0g h.nd hp;obtain ⟨hs,t1,t3,ho,_⟩:=o1c ht;cases hf:i0l s l with
   | none =>
    have:=q1o (h.gone _ hp hf) (k:=(b0q s t a b).1-1) (by omega) (by omega) ho;simp only at this c2;rw[this] at c2;exact absurd c2 (by decide)
   | some i =>
    obtain ⟨x,hx,hxl,hlv,hok⟩:=found h.ok hf;have hi:i∈g0c s:=by
     unfold g0c;rw[List.mem_filter,List.mem_range];refine ⟨?_,by rw[i1j hx];exact decide_eq_true hlv⟩;rcases Nat.lt_or_ge i s.2.2.2.length with q | q
     ·exact q
     ·rw[List.getElem?_eq_none q] at hx;cases hx
    have hd:=a2j h.ok (l:=l) (hxl ▸ hok.lab) ht;have hc:=t0w h hd;rw[hev] at hc;refine List.mem_map.2 ⟨(l,(doQ s l (b0q s t a b).1 a b).1),?_,by rw[hc]⟩;unfold m0v;refine List.mem_filterMap.2 ⟨i,hi,?_⟩;unfold partOf;rw[hx];simp only;rw[hxl,if_pos ⟨c1,by rw[hc];exact c2⟩]
 refine (List.perm_ext_iff_of_nodup ?_ ?_).2 hmem
 ·rw[List.nodup_iff_pairwise_ne,List.pairwise_map];unfold m0v;rw[List.pairwise_filterMap];have hlt:(g0c s).Pairwise (· < ·):=by
   unfold g0c;exact List.Pairwise.sublist List.filter_sublist List.pairwise_lt_range
  refine hlt.imp_of_mem fun {i j} hi hj hij p hp q hq e => ?_
  obtain ⟨x,hx,hl,e1,_⟩:=w0y h ht hi hp;obtain ⟨y,hy,hl',e1',_⟩:=w0y h ht hj hq;have hxy:x.1=y.1:=by rw[←e1,←e1'];exact (Prod.mk.inj e).1
  have f1:=i1v h.ok hx hl;have f2:=i1v h.ok hy hl';rw[hxy,f2] at f1;injection f1 with f1;omega
 ·rw[List.nodup_iff_pairwise_ne,List.pairwise_filterMap];have hn:=h.nd;unfold keysB at hn;rw[List.nodup_iff_pairwise_ne,List.pairwise_map] at hn;refine hn.imp fun {p q} hpq u hu v hv e => ?_
  obtain ⟨_,rfl⟩:=n0j.1 hu;obtain ⟨_,rfl⟩:=n0j.1 hv;exact hpq (Prod.mk.inj e).1
theorem k2d {N:Nat} {s:Sta} {B:Bk} (h:BkInv N s B) {ms:List Mat} {t a b:Int} (ht:(b0q s t a b).2=0) :
  (m0v s ms (b0q s t a b).1 a b).length=(B.filterMap (i0q ms a b)).length∧∀f:Cel→Int,sm f (m0v s ms (b0q s t a b).1 a b)=((B.filterMap (i0q ms a b)).map fun q=>f q.2).sum:=by
 have hp:=g2k (ms:=ms) h ht;refine ⟨by simpa using hp.length_eq,fun f => ?_⟩;have:=l2m (hp.map fun q=>f q.2);rw[List.map_map] at this;exact this
end Go.Proofs.YtojobamheigpbaaGreatDoor

namespace Go.Plim
set_option linter.unusedVariables false
end Go.Plim

namespace Go.Proofs.YtojobamheigpbaaGreatDoor
open Go.Flat Go.Plim
set_option linter.unusedVariables false
set_option linter.unusedSimpArgs false
def FrR (x y:Nat):Prop:=y≠0∧Nat.gcd x y=1
instance (x y:Nat):Decidable (FrR x y):=inferInstanceAs (Decidable (_∧_))
def u0e (f:Wd×Wd):Prop:=FrR (wv f.1).toNat (wv f.2).toNat
instance (f:Wd×Wd):Decidable (u0e f):=inferInstanceAs (Decidable (FrR _ _))
structure FrW (f:Wd×Wd):Prop where
 n:WdOk f.1
 d:WdOk f.2
theorem FrW.nat {f:Wd×Wd} (h:FrW f):∃x y:Nat,x<340282366920938463463374607431768211456∧y<340282366920938463463374607431768211456∧f=(ofN x,ofN y):=by
 obtain ⟨x,hx,e1,_⟩:=ofN_of h.n;obtain ⟨y,hy,e2,_⟩:=ofN_of h.d;exact ⟨x,y,hx,hy,by rw[←e1,←e2]⟩
theorem b1w (x y:Nat):u0e (ofN x,ofN y)=FrR x y:=by
 unfold u0e;rw[l1j,l1j,Int.toNat_natCast,Int.toNat_natCast]
theorem m2d (g:Nat):(decide ((ofN g).1=(0:Int))&&decide ((ofN g).2=(1:Int)))=decide (g=1):=by
 rw[←Bool.decide_and];apply decide_eq_decide.2;unfold ofN;constructor
 ·rintro ⟨h1,h2⟩;simp only at h1 h2;omega
 ·rintro rfl;exact ⟨rfl,rfl⟩
theorem r0h (n:Nat) {f:Wd×Wd} (h:FrW f):j0j (n+5) f=some (if u0e f then 0 else 2):=by
 obtain ⟨x,y,hx,hy,rfl⟩:=h.nat;rw[k1l];simp only[b1w];rw[d0v,obs,tfd];by_cases hd:y=0
 ·rw[if_pos hd,if_neg (fun k:FrR x y=>k.1 hd)]
 rw[if_neg hd,u1g n hx hy,obs,a1n,obs,tfn,m2d,tfd];by_cases hg:Nat.gcd x y=1
 ·rw[if_pos hg,if_pos (show FrR x y from ⟨hd,hg⟩)]
 ·rw[if_neg hg,if_neg (fun e:FrR x y=>hg e.2)]
def c1s (x y:Nat):Wd×Int:=if x*y<340282366920938463463374607431768211456 then (ofN (x*y),0) else ((0,0),1)
theorem l1n (x k:Nat):g1c (ofN x) (k:Int)=c1s x k:=by
 unfold g1c c1s;rw[l1j];by_cases h:x*k<340282366920938463463374607431768211456
 ·rw[if_pos h,if_pos (by rw[←Int.natCast_mul];omega),←Int.natCast_mul,i1g]
 ·rw[if_neg h,if_neg (by rw[←Int.natCast_mul];omega)]
theorem x1i (x y:Nat):c1s x y=c1s y x:=by unfold c1s;rw[Nat.mul_comm]
theorem hi_zero (x:Nat):((ofN x).1=(0:Int))↔x<18446744073709551616:=by
 show (((x / 18446744073709551616:Nat):Int)=0)↔_;omega
theorem lo_val {x:Nat} (h:x<18446744073709551616):(ofN x).2=(x:Int):=by
 show ((x % 18446744073709551616:Nat):Int)=_;omega
theorem t0h (n:Nat) {x y:Nat} (hx:x<340282366920938463463374607431768211456) (hy:y<340282366920938463463374607431768211456):r0g (n+3) (ofN x) (ofN y)=some (c1s x y):=by
 rw[k1k];simp only[tfn,tfd,hi_zero];by_cases h1:x<18446744073709551616
 ·rw[if_pos h1,if_pos h1,lo_val h1,u0g n (o0a hy) _ (by omega),obs,l1n,x1i]
 rw[if_neg h1];by_cases h2:y<18446744073709551616
 ·rw[if_pos h2,lo_val h2,u0g n (o0a hx) _ (by omega),obs,l1n]
 ·rw[if_neg h2];unfold c1s;have:18446744073709551616*18446744073709551616≤x*y:=Nat.mul_le_mul (by omega) (by omega);rw[if_neg (by omega)]
def lessN (a b c d:Nat):Bool×Int :=
 if FrR a b∧FrR c d then (if a*d<340282366920938463463374607431768211456∧c*b<340282366920938463463374607431768211456 then (decide (a*d<c*b),0) else (false,1)) else (false,2)
def v1j (a b:Wd×Wd):Bool×Int:=lessN (wv a.1).toNat (wv a.2).toNat (wv b.1).toNat (wv b.2).toNat
theorem m2r (a b c d:Nat):v1j (ofN a,ofN b) (ofN c,ofN d)=lessN a b c d:=by
 unfold v1j;simp only[l1j,Int.toNat_natCast]
theorem g1y (n:Nat) {f g:Wd×Wd} (hf:FrW f) (hg:FrW g):p0o (n+6) f g=some (v1j f g):=by
 rw[p1m,r0h n hf,obs,r0h n hg,obs];obtain ⟨a,b,ha,hb,rfl⟩:=hf.nat;obtain ⟨c,d,hc,hd,rfl⟩:=hg.nat;simp only[b1w,m2r];unfold lessN;by_cases h1:FrR a b
 case neg=>rw[if_neg h1,if_neg (fun e:FrR a b∧FrR c d=>h1 e.1)];rfl
 by_cases h2:FrR c d
 case neg=>rw[if_neg h2,if_pos h1,if_neg (fun e:FrR a b∧FrR c d=>h2 e.2)];rfl
 rw[if_pos h1,if_pos h2,if_pos ⟨h1,h2⟩];simp only[decide_true,Bool.not_true,tff];rw[t0h (n+2) ha hd,obs,t0h (n+2) hc hb,obs];unfold c1s;by_cases h3:a*d<340282366920938463463374607431768211456
 case neg=>rw[if_neg h3,if_neg (fun e:a*d<340282366920938463463374607431768211456∧c*b<340282366920938463463374607431768211456=>h3 e.1)];rfl
 by_cases h4:c*b<340282366920938463463374607431768211456
 case neg=>rw[if_pos h3,if_neg h4,if_neg (fun e:a*d<340282366920938463463374607431768211456∧c*b<340282366920938463463374607431768211456=>h4 e.2)];rfl
 rw[if_pos h3,if_pos h4,if_pos ⟨h3,h4⟩];simp only[decide_true,Bool.not_true,tff];rw[a1o (n+4) h3 h4,obs]
theorem redV_w {x y:Nat} (hx:x<340282366920938463463374607431768211456) (hy:y<340282366920938463463374607431768211456):FrW (redV x y).1∧((redV x y).2=0→u0e (redV x y).1):=by
 unfold redV;by_cases h:y=0
 ·rw[if_pos h];exact ⟨⟨o0a (x:=0) (by omega),o0a (x:=0) (by omega)⟩,fun e=>by cases e⟩
 ·rw[if_neg h];have hg:0<Nat.gcd x y:=Nat.gcd_pos_of_pos_right x (by omega);refine ⟨⟨o0a (Nat.lt_of_le_of_lt (Nat.div_le_self _ _) hx),o0a (Nat.lt_of_le_of_lt (Nat.div_le_self _ _) hy)⟩,fun _ => ?_⟩;simp only;rw[b1w];refine ⟨?_,Nat.gcd_div_gcd_div_gcd_of_pos_right (show 0<y by omega)⟩;have:=Nat.div_pos (Nat.gcd_le_right x (show 0<y by omega)) hg;omega
theorem l2f {a:Wd} (ha:WdOk a) {ms:Int} (hm:0≤ms∧ms≤18446744073709551615):FrW (k1m a ms).1∧((k1m a ms).2=0→u0e (k1m a ms).1):=by
 have hz:FrW (((0,0),(0,0)):Wd×Wd):=⟨o0a (x:=0) (by omega),o0a (x:=0) (by omega)⟩;unfold k1m;by_cases h0:ms=0
 ·rw[if_pos h0];exact ⟨hz,fun e=>by cases e⟩
 rw[if_neg h0];by_cases h:wv a*1000<340282366920938463463374607431768211456
 ·rw[if_pos h];obtain ⟨h1,h2⟩:=h0v ha;exact redV_w (by omega) (by omega)
 ·rw[if_neg h];exact ⟨hz,fun e=>by cases e⟩
abbrev Wat:=(List Lab×(Int×(Int×Int)))×(Wd×Wd)
noncomputable def oneW (s:Sta) (w:Wat):Bool×Int :=
 if StaOk s then (if u0e w.2 then
  (if (doQ s w.1.1 w.1.2.1 w.1.2.2.1 w.1.2.2.2).2=0 then
   (if (doQ s w.1.1 w.1.2.1 w.1.2.2.1 w.1.2.2.2).1.2.2.2=0 then
    (if (v1j (doQ s w.1.1 w.1.2.1 w.1.2.2.1 w.1.2.2.2).1.2.2.1 w.2).2=0 then (!(v1j (doQ s w.1.1 w.1.2.1 w.1.2.2.1 w.1.2.2.2).1.2.2.1 w.2).1,0) else (false,(v1j (doQ s w.1.1 w.1.2.1 w.1.2.2.1 w.1.2.2.2).1.2.2.1 w.2).2))
   else (false,(doQ s w.1.1 w.1.2.1 w.1.2.2.1 w.1.2.2.2).1.2.2.2))
  else (false,(doQ s w.1.1 w.1.2.1 w.1.2.2.1 w.1.2.2.2).2)) else (false,2)) else (false,2)
theorem rateC_w {c:Cel} (hw:WdOk c.2.2.2.1) (hs:c.2.2.2.2.2.2≤9223372036854775807):FrW (h1e c).1∧((h1e c).2=0→u0e (h1e c).1):=by
 unfold h1e;by_cases h:c.2.2.2.2.2.2<1
 ·rw[if_pos h];exact ⟨⟨o0a (x:=0) (by omega),o0a (x:=0) (by omega)⟩,fun e=>by cases e⟩
 ·rw[if_neg h];exact l2f hw ⟨by omega,by omega⟩
theorem doQ_w (s:Sta) (l:List Lab) (t a b:Int):FrW (doQ s l t a b).1.2.2.1∧((doQ s l t a b).2=0→(doQ s l t a b).1.2.2.2=0→u0e (doQ s l t a b).1.2.2.1):=by
 have hz:FrW (((0,0),(0,0)):Wd×Wd):=⟨o0a (x:=0) (by omega),o0a (x:=0) (by omega)⟩;unfold doQ;by_cases h:StaOk s
 case neg=>rw[if_neg h];exact ⟨hz,fun e=>by cases e⟩
 rw[if_pos h];by_cases hl:LabOk l
 case neg=>rw[if_neg hl];exact ⟨hz,fun e=>by cases e⟩
 rw[if_pos hl];by_cases ht:(b0q s t a b).2=0
 case neg=>rw[if_neg ht];exact ⟨hz,fun e=>(ht e).elim⟩
 rw[if_pos ht];have hr:=g0z (s1a s l ((b0q s t a b).1-1) a b);have:=rateC_w hr.1 hr.2;exact ⟨this.1,fun _ e=>this.2 e⟩
theorem j2l (n:Nat) {s:Sta} (hw:StaW s) {w:Wat} (hf:FrW w.2):s0s (n+25) s w=some (oneW s w):=by
 rw[s1t,e0w (n+10) hw,obs];unfold oneW;by_cases h:StaOk s
 case neg=>rw[if_neg h,if_neg h];rfl
 rw[if_pos h,if_pos h,r0h (n+19) hf];simp only[decide_true,Bool.not_true,tff,obs];by_cases h2:u0e w.2
 case neg=>rw[if_neg h2,if_neg h2];rfl
 rw[if_pos h2,if_pos h2,y0z n hw w.1];simp only[decide_true,Bool.not_true,tff,obs,tfd,tfn];have hq:=(doQ_w s w.1.1 w.1.2.1 w.1.2.2.1 w.1.2.2.2).1;generalize doQ s w.1.1 w.1.2.1 w.1.2.2.1 w.1.2.2.2=d at *
 by_cases h3:d.2=0
 case neg=>rw[if_neg h3,if_neg h3,if_neg h3]
 rw[if_pos h3,if_pos h3];by_cases h4:d.1.2.2.2=0
 case neg=>rw[if_neg h4,if_neg h4]
 rw[if_pos h4,if_pos h4,g1y (n+18) hq hf,obs];by_cases h5:(v1j d.1.2.2.1 w.2).2=0
 ·rw[if_pos h5,if_pos h5,h5]
 ·rw[if_neg h5,if_neg h5]
structure WsW (ws:List Wat):Prop where
 fr:∀w∈ws,FrW w.2
theorem f1n (n:Nat) {N:Nat} {s:Sta} {B:Bk} (h:BkInv N s B) (hb:N<1000000) (x:Act) (hx:EvW x.2.1.2):∃t v B',i0y (n+25) x s=some (t,v)∧h0e (n+25) (bkM B) x v=some (true,bkM B')∧BkInv (N+1) t B':=by
 obtain ⟨t,v,e1,e2⟩:=e2z n h hb x hx;rcases e2 with ⟨h0,hv,k1,k2,k3,k4,_⟩ | ⟨k0,k1,_⟩
 ·subst hv;exact ⟨t,0,_,e1,f2a (n+15) h (by omega) h0 k2 k3 k4,k1⟩
 ·exact ⟨t,v,B,e1,j2x (n+24) (bkM B) k0,k1⟩
theorem cut_l10 (n:Nat) (ls:List Lab) (a:Int) (b:Int) (acts:List Act) (hL:acts.length≤40) (he:∀x∈acts,EvW x.2.1.2):∀(rest pre:List Act) (f:Nat) (s:Sta) (B:Bk) (ix len:Int),acts=pre++rest→ix=pre.length→len=acts.length→rest.length<f→BkInv pre.length s B →
  ∃t B',j0v (n+25) f (ls,a,b,s,bkM B,acts,len,ix,())=some (.inl (ls,a,b,t,bkM B',()))∧BkInv 40 t B':=by
 intro rest;induction rest with
 | nil =>
  intro pre f s B ix len ha hi hl hf hs;obtain ⟨f,rfl⟩:=c0d hf;subst hi;subst hl;rw[List.append_nil] at ha;subst ha;rw[p0e,decide_eq_false (by omega),tff];exact ⟨s,B,rfl,hs.mono hL⟩
 | cons x r ih =>
  intro pre f s B ix len ha hi hl hf hs;obtain ⟨f,rfl⟩:=c0d hf;have hlen:acts.length=pre.length+(r.length+1):=by rw[ha];simp
  subst hi;subst hl;obtain ⟨t,v,B',e1,e2,e3⟩:=f1n n hs (by omega) x (he x (by rw[ha];simp));have hat:at? acts (pre.length:Int)=some x:=by
   rw[ha];exact b0s (pre:=pre) (rest:=r) rfl rfl
  rw[p0e,decide_eq_true (by omega),tft,hat,obs,e1,obs,e2,obs,w64 (by omega) (by omega)];simp only[Bool.not_true,tff];obtain ⟨t2,B2,f1,f2⟩:=ih (pre++[x]) f t B' ((pre.length:Int)+1) (acts.length:Int) (by rw[ha];simp) (by simp) rfl (by simp at hf;omega) (by simpa using e3);exact ⟨t2,B2,f1,f2⟩
theorem sums_l10 (n:Nat) (ms:List Mat) (t0:Int) (a:Int) (b:Int) (acts:List Act) (hL:acts.length≤40) (he:∀x∈acts,EvW x.2.1.2):∀(rest pre:List Act) (f:Nat) (s:Sta) (B:Bk) (ix len:Int),acts=pre++rest→ix=pre.length→len=acts.length→rest.length<f→BkInv pre.length s B →
  ∃t B',h0x (n+25) f (ms,t0,a,b,s,bkM B,acts,len,ix,())=some (.inl (ms,t0,a,b,t,bkM B',()))∧BkInv 40 t B':=by
 intro rest;induction rest with
 | nil =>
  intro pre f s B ix len ha hi hl hf hs;obtain ⟨f,rfl⟩:=c0d hf;subst hi;subst hl;rw[List.append_nil] at ha;subst ha;rw[n0q,decide_eq_false (by omega),tff];exact ⟨s,B,rfl,hs.mono hL⟩
 | cons x r ih =>
  intro pre f s B ix len ha hi hl hf hs;obtain ⟨f,rfl⟩:=c0d hf;have hlen:acts.length=pre.length+(r.length+1):=by rw[ha];simp
  subst hi;subst hl;obtain ⟨t,v,B',e1,e2,e3⟩:=f1n n hs (by omega) x (he x (by rw[ha];simp));have hat:at? acts (pre.length:Int)=some x:=by
   rw[ha];exact b0s (pre:=pre) (rest:=r) rfl rfl
  rw[n0q,decide_eq_true (by omega),tft,hat,obs,e1,obs,e2,obs,w64 (by omega) (by omega)];simp only[Bool.not_true,tff];obtain ⟨t2,B2,f1,f2⟩:=ih (pre++[x]) f t B' ((pre.length:Int)+1) (acts.length:Int) (by rw[ha];simp) (by simp) rfl (by simp at hf;omega) (by simpa using e3);exact ⟨t2,B2,f1,f2⟩
theorem q2b (n:Nat) (w:Wat) (acts:List Act) (hL:acts.length≤40) (he:∀x∈acts,EvW x.2.1.2):∀(rest pre:List Act) (f:Nat) (s:Sta) (B:Bk) (ix len:Int),acts=pre++rest→ix=pre.length→len=acts.length→rest.length<f→BkInv pre.length s B →
  ∃t B',g0u (n+25) f (w,s,bkM B,acts,len,ix,())=some (.inl (w,t,bkM B',()))∧BkInv 40 t B':=by
 intro rest;induction rest with
 | nil =>
  intro pre f s B ix len ha hi hl hf hs;obtain ⟨f,rfl⟩:=c0d hf;subst hi;subst hl;rw[List.append_nil] at ha;subst ha;rw[l0y,decide_eq_false (by omega),tff];exact ⟨s,B,rfl,hs.mono hL⟩
 | cons x r ih =>
  intro pre f s B ix len ha hi hl hf hs;obtain ⟨f,rfl⟩:=c0d hf;have hlen:acts.length=pre.length+(r.length+1):=by rw[ha];simp
  subst hi;subst hl;obtain ⟨t,v,B',e1,e2,e3⟩:=f1n n hs (by omega) x (he x (by rw[ha];simp));have hat:at? acts (pre.length:Int)=some x:=by
   rw[ha];exact b0s (pre:=pre) (rest:=r) rfl rfl
  rw[l0y,decide_eq_true (by omega),tft,hat,obs,e1,obs,e2,obs,w64 (by omega) (by omega)];simp only[Bool.not_true,tff];obtain ⟨t2,B2,f1,f2⟩:=ih (pre++[x]) f t B' ((pre.length:Int)+1) (acts.length:Int) (by rw[ha];simp) (by simp) rfl (by simp at hf;omega) (by simpa using e3);exact ⟨t2,B2,f1,f2⟩
theorem l2e {l:List Ev} (h:Foll l):WdOk (cellOf l).2.2.2.1∧(cellOf l).2.2.2.2.2.2≤9223372036854775807:=g0z (e0g h)
theorem s0b {l:List Ev} (h:Foll l) (a b:Int):Foll (l.filter (inR a b)):=h.sub List.filter_sublist
theorem flat_l10 (n:Nat) (q:List Lab×(Int×(Int×Int))) (acts:List Act) (hL:acts.length≤40) (he:∀x∈acts,EvW x.2.1.2):∀(rest pre:List Act) (f:Nat) (s:Sta) (B:Bk) (ix len:Int),acts=pre++rest→ix=pre.length→len=acts.length→rest.length<f→BkInv pre.length s B →
  f0m (n+25) f (q,s,bkM B,acts,len,ix,())=some (.inl ()):=by
 obtain ⟨l,t0,a,b⟩:=q;intro rest;induction rest with
 | nil =>
  intro pre f s B ix len ha hi hl hf hs;obtain ⟨f,rfl⟩:=c0d hf;subst hi;subst hl;rw[List.append_nil] at ha;subst ha;rw[n0r,decide_eq_false (by omega),tff]
 | cons x r ih =>
  intro pre f s B ix len ha hi hl hf hs;obtain ⟨f,rfl⟩:=c0d hf;have hlen:acts.length=pre.length+(r.length+1):=by rw[ha];simp
  subst hi;subst hl;obtain ⟨t,v,B',e1,e2,e3⟩:=f1n n hs (by omega) x (he x (by rw[ha];simp));have hat:at? acts (pre.length:Int)=some x:=by
   rw[ha];exact b0s (pre:=pre) (rest:=r) rfl rfl
  have hnext:=ih (pre++[x]) f t B' ((pre.length:Int)+1) (acts.length:Int) (by rw[ha];simp) (by simp) rfl (by simp at hf;omega) (by simpa using e3);rw[n0r,decide_eq_true (by omega),tft,hat,obs,e1,obs,e2,obs,w64 (by omega) (by omega)];simp only[Bool.not_true,tff];rw[y0z (n+1) e3.w,obs,tfn,tfd];simp only;by_cases g:(doQ t l t0 a b).2=0
  case neg=>rw[if_neg g];exact hnext
  rw[if_pos g];obtain ⟨_,_,ht,e⟩:=r1m g;have hans:=t0w e3 g;have hrate:(doQ t l t0 a b).1.2.2=h1e (doQ t l t0 a b).1.2.1:=by rw[e]
  have hr:=l2e (s0b (s1e e3 l) a b);rw[hrate,hans,m1g (n+18) hr.1 hr.2,obs,z0u (n+15) e3 (by omega) l a b,obs];simp only[decide_true,beq_self_eq_true,Bool.and_self,Bool.not_true,tff];exact hnext
theorem t1c (n:Nat) (c:Conf) (acts:List Act) (q:List Lab×(Int×(Int×Int))) (hc:Wf a0n c) (ha:Wf (.slice b0y) acts) (hq:Wf q0p q):g1a (n+41) c acts q=some true:=by
 obtain ⟨a1,a2,a3⟩:=s1j ha;rw[k1a,i0x n,obs,tfn,tft];rcases d2i (n+32) c with h | ⟨h,h0⟩
 ·rw[h];rfl
 rw[h,obs,tfn,tft];rcases u0l (n+38) acts a1 a2 with h1 | ⟨h1,h40⟩
 ·rw[h1];rfl
 rw[h1,obs,tfn,tft];rcases z0o (n+39) q.1 (e2h hq) with h2 | h2
 ·rw[h2];rfl
 rw[h2,obs,show (decide ((1:Int)=0))=false from rfl,tff,m0e (n+33),obs,r0y,obs,tfn,tfd,if_pos h0];have e1:=flat_l10 (n+15) q acts h40 a3 acts [] a0b (l0e c).1 [] 0 _ rfl rfl rfl (by unfold a0b;omega) (.new h0);rw[s1f] at e1;rw[e1,obs,a0w]
theorem inn_ok {s:Sta} {k a b:Int} (h:(innV s k a b).2.2=0):StaOk s∧(1≤k∧k≤3)∧0≤a∧b≤35184372088832∧innA s (k-1) a<b / b0c s.1 (k-1)∧innV s k a b=(innA s (k-1) a*b0c s.1 (k-1),(b / b0c s.1 (k-1)*b0c s.1 (k-1),0)):=by
 unfold innV at h ⊢;by_cases h1:StaOk s
 case neg=>rw[if_neg h1] at h;cases h
 rw[if_pos h1] at h ⊢;by_cases h2:k<1∨3<k∨a<0∨35184372088832<b∨b≤a
 ·rw[if_pos h2] at h;cases h
 rw[if_neg h2] at h ⊢;by_cases h3:b / b0c s.1 (k-1)≤innA s (k-1) a
 ·rw[if_pos h3] at h;cases h
 rw[if_neg h3];exact ⟨h1,by omega,by omega,by omega,by omega,rfl⟩
theorem fin_err {s:Sta} {a b:Int} (h:(finV s a b).2.2.2≠0):(finV s a b).1=0∧(finV s a b).2.1=0∧(finV s a b).2.2.1=0:=by
 unfold finV at h ⊢;by_cases h1:(innV s 1 a b).2.2=0
 ·rw[if_pos h1] at h;exact absurd h1 h
 rw[if_neg h1] at h ⊢;by_cases h2:(innV s 1 a b).2.2=3
 case neg=>rw[if_pos h2];exact ⟨rfl,rfl,rfl⟩
 rw[if_neg (fun k=>k h2)] at h ⊢;by_cases h3:(innV s 2 a b).2.2=0
 ·rw[if_pos h3] at h;exact absurd h3 h
 rw[if_neg h3] at h ⊢;by_cases h4:(innV s 2 a b).2.2=3
 case neg=>rw[if_pos h4];exact ⟨rfl,rfl,rfl⟩
 rw[if_neg (fun k=>k h4)] at h ⊢;by_cases h5:(innV s 3 a b).2.2=0
 ·rw[if_pos h5] at h;exact absurd h5 h
 rw[if_neg h5];exact ⟨rfl,rfl,rfl⟩
theorem fin_ok {s:Sta} {a b:Int} (h:(finV s a b).2.2.2=0):∃k,finV s a b=(k,innV s k a b)∧(innV s k a b).2.2=0∧∀i,1≤i→i<k→(innV s i a b).2.2=3:=by
 unfold finV at h ⊢;by_cases h1:(innV s 1 a b).2.2=0
 ·rw[if_pos h1];exact ⟨1,rfl,h1,fun i _ _=>by omega⟩
 rw[if_neg h1] at h ⊢;by_cases h2:(innV s 1 a b).2.2=3
 case neg=>rw[if_pos h2] at h;exact absurd h h1
 rw[if_neg (fun k=>k h2)] at h ⊢;by_cases h3:(innV s 2 a b).2.2=0
 ·rw[if_pos h3];exact ⟨2,rfl,h3,fun i _ _=>by rw[show i=1 by omega];exact h2⟩
 rw[if_neg h3] at h ⊢;by_cases h4:(innV s 2 a b).2.2=3
 case neg=>rw[if_pos h4] at h;exact absurd h h3
 rw[if_neg (fun k=>k h4)] at h ⊢;by_cases h5:(innV s 3 a b).2.2=0
 ·rw[if_pos h5];refine ⟨3,rfl,h5,fun i i1 i2 => ?_⟩;rcases (show i=1∨i=2 by omega) with e | e<;>(subst e;assumption)
 ·rw[if_neg h5] at h;exact absurd h h5
theorem cut_l23 (n:Nat) {s:Sta} (hw:StaW s) (ls:List Lab) (a b:Int) (bk:BkE) {k:Int} (c d:Int) (hk:k≤3) (h3:∀i,1≤i→i<k→(innV s i a b).2.2=3):∀(m f:Nat) (i:Int),1≤i→k-i≤m→m<f →
  j0u (n+18) f (ls,a,b,s,bk,k,c,d,i,())=some (.inl (ls,s,bk,k,c,d,())):=by
 intro m;induction m with
 | zero =>
  intro f i h1 hm hf;obtain ⟨f,rfl⟩:=c0d hf;rw[p0d,decide_eq_false (by omega),tff]
 | succ m ih =>
  intro f i h1 hm hf;obtain ⟨f,rfl⟩:=c0d hf;rw[p0d,tfd];by_cases h:i<k
  ·rw[if_pos h,v0g n hw,obs,h3 i h1 h,w64 (by omega) (by omega)];simp only[decide_true,Bool.not_true,tff];exact ih f (i+1) (by omega) (by omega) (by omega)
  ·rw[if_neg h]
theorem x1h (n:Nat) (c:Conf) (acts:List Act) (l:List Lab) (a b:Int) (hc:Wf a0n c) (ha:Wf (.slice b0y) acts) (hl:Wf (.slice a0j) l):l1m (n+41) c acts l a b=some true:=by
 obtain ⟨a1,a2,a3⟩:=s1j ha;rw[n1x,i0x n,obs,tfn,tft];rcases d2i (n+32) c with h | ⟨h,h0⟩
 ·rw[h];rfl
 rw[h,obs,tfn,tft];rcases u0l (n+38) acts a1 a2 with h1 | ⟨h1,h40⟩
 ·rw[h1];rfl
 rw[h1,obs,tfn,tft];rcases z0o (n+39) l hl.1 with h2 | h2
 ·rw[h2];rfl
 rw[h2,obs,show (decide ((1:Int)=0))=false from rfl,tff,m0e (n+33),obs,r0y,obs,tfn,tfd,if_pos h0];obtain ⟨s,B,e1,hs⟩:=cut_l10 (n+15) l a b acts h40 a3 acts [] a0b (l0e c).1 [] 0 _ rfl rfl rfl (by unfold a0b;omega) (.new h0);rw[s1f] at e1;rw[e1,obs,a0w];simp only;rw[a2z (n+21) hs.w,obs,tfn,tfd];by_cases g:(finV s a b).2.2.2=0
 case neg =>
  obtain ⟨k1,k2,k3⟩:=fin_err g;rw[if_neg g,k1,k2,k3];rfl
 rw[if_pos g];obtain ⟨k,ek,e0,e3⟩:=fin_ok g;obtain ⟨i1,⟨i2,i3⟩,i4,i5,i6,i7⟩:=inn_ok e0;obtain ⟨q0,q1,q2,q3,q4⟩:=z1v hs.ok (k:=k-1) (a:=a) (b:=b) (by omega) (by omega) i4 i5 i6;rw[ek,i7];simp only[tfd];rw[if_neg (by omega),if_neg (by omega),if_neg (by omega),if_neg (by omega),if_neg (by omega),cut_l23 (n+22) hs.w l a b (bkM B) _ _ i3 e3 2 a0b 1 (by omega) (by omega) (by unfold a0b;omega),obs,a0w];simp only;rw[y0z (n+16) hs.w,obs,tfn,tfd];simp only;by_cases hlab:LabOk l
 case neg =>
  have e8:(doQ s l k (innA s (k-1) a*b0c s.1 (k-1)) (b / b0c s.1 (k-1)*b0c s.1 (k-1))).2=8:=by
   unfold doQ;rw[if_pos hs.ok,if_neg hlab]
  rw[e8];rfl
 have hans:=h2o hs (l:=l) (k:=k-1) (a:=a) (b:=b) (by omega) (by omega) i4 i5 i6 hlab;rw[show k-1+1=k by omega] at hans;rw[if_pos hans.1,hans.2,z0u (n+30) hs (by omega),obs];simp only[decide_true,beq_self_eq_true,Bool.and_self]
theorem y1m (n:Nat) (ms:List Mat):∀(rest pre:List Mat) (f:Nat) (i len:Int),ms=pre++rest→i=pre.length→len=ms.length→rest.length<f→pre.length≤40 →
  k0f n f (ms,len,i,())=some (.inr 0)∨(k0f n f (ms,len,i,())=some (.inl ())∧ms.length≤40):=by
 intro rest;induction rest with
 | nil =>
  intro pre f i len hl hi hn hf hp;obtain ⟨f,rfl⟩:∃g,f=g+1:=⟨f-1,by simp at hf;omega⟩;rw[t0r,decide_eq_false (idxe hl hi hn),tff];exact .inr ⟨rfl,by rw[hl];simpa using hp⟩
 | cons x rest ih =>
  intro pre f i len hl hi hn hf hp;obtain ⟨f,rfl⟩:∃g,f=g+1:=⟨f-1,by simp at hf;omega⟩;rw[t0r,decide_eq_true (idx hl hi hn),tft,b0s hl hi,obs,tfd,tfd,tfd];by_cases h1:i=40
  ·rw[if_pos h1];exact .inl rfl
  rw[if_neg h1];by_cases h2:(1000:Int)<(x.2.1.length:Int)
  ·rw[if_pos h2];exact .inl rfl
  rw[if_neg h2];by_cases h3:(1000:Int)<(x.2.2.length:Int)
  ·rw[if_pos h3];exact .inl rfl
  rw[if_neg h3,w64 (x:=i+1) (by omega) (by omega)];exact ih (pre++[x]) f (i+1) len (idxl hl) (idxs hi) hn (by simp at hf;omega) (by simp;omega)
theorem k2w (n:Nat) (ms:List Mat) (hL:ms.length≤9223372036854775807):z0n (n+1) ms=some 0∨(z0n (n+1) ms=some 1∧ms.length≤40):=by
 rw[v1l];rcases y1m n ms ms [] a0b 0 _ rfl rfl rfl (by unfold a0b;omega) (by simp) with h | ⟨h,k⟩
 ·rw[h];exact .inl rfl
 ·rw[h];exact .inr ⟨rfl,k⟩
theorem s66_mat {m:Mat} (h:Wf a0r m):0≤m.1:=h.1.1
def toP (q:List Lab×Cel):Prt:=(q.1,(0,(q.2,(((0,0),(0,0)),0))))
theorem sm_toP (f:Cel→Int) (L:List (List Lab×Cel)):sm f (L.map toP)=(L.map fun q=>f q.2).sum:=by
 unfold sm;rw[List.map_map];rfl
theorem sm_snoc (f:Cel→Int) (l:List Prt) (p:Prt):sm f (l++[p])=sm f l+f p.2.2.1:=by unfold sm;simp
theorem j2w {k:Int} {l:List Prt} {c:Cel} (hl:∀p∈l,b0h p.2.2.1) (hc:b0h c) (hn:l.length≤1000) (nm:List Lab) :
  addW (totS k l).2.2.2.1 c.2.2.2.1=(mkW (sm fI l+fI c),0) ∧
  ((totS k l).1,(IntKind.wrap .i64 ((totS k l).2.1+1),(IntKind.wrap .i64 ((totS k l).2.2.1+c.1),(mkW (sm fI l+fI c),(IntKind.wrap .i64 ((totS k l).2.2.2.2.1+c.2.2.2.2.1),(IntKind.wrap .i64 ((totS k l).2.2.2.2.2.1+c.2.2.2.2.2.1),IntKind.wrap .i64 ((totS k l).2.2.2.2.2.2+c.2.2.2.2.2.2)))))))=totS k (l++[toP (nm,c)]):=by
 obtain ⟨⟨c1,c2⟩,⟨c3,c4⟩,⟨c5,c6⟩,⟨c7,c8⟩,⟨c9,c10⟩⟩:=g0x hc;have r1:=q0u (f:=fE) fun p hp=>(g0x (hl p hp)).1
 have r2:=q0u (f:=fI) fun p hp=>(g0x (hl p hp)).2.1
 have r3:=q0u (f:=fR) fun p hp=>(g0x (hl p hp)).2.2.1
 have r4:=q0u (f:=fG) fun p hp=>(g0x (hl p hp)).2.2.2.1
 have r5:=q0u (f:=fS) fun p hp=>(g0x (hl p hp)).2.2.2.2
 constructor
 ·unfold addW totS;simp only;rw[c1p];show (if sm fI l+fI c<_ then _ else _)=_;rw[if_pos (by omega)];rfl
 ·unfold totS;simp only[sm_snoc,List.length_append,List.length_singleton];show (k,(IntKind.wrap .i64 ((l.length:Int)+1),(IntKind.wrap .i64 (sm fE l+fE c),(mkW (sm fI l+fI c),(IntKind.wrap .i64 (sm fR l+fR c),(IntKind.wrap .i64 (sm fG l+fG c),IntKind.wrap .i64 (sm fS l+fS c)))))))=_;rw[w64 (x:=(l.length:Int)+1) (by omega) (by omega),w64 (x:=sm fE l+fE c) (by omega) (by omega),w64 (x:=sm fR l+fR c) (by omega) (by omega),w64 (x:=sm fG l+fG c) (by omega) (by omega),w64 (x:=sm fS l+fS c) (by omega) (by omega)];rfl
theorem sums_l22 (n:Nat) {N:Nat} {s:Sta} {B:Bk} (h:BkInv N s B) (hN:N≤40) {ms:List Mat} (hm:ms.length≤1000000) (a b k:Int) (got:Tot):∀(rest pre:Bk) (f:Nat) (ix len:Int),B=pre++rest→ix=pre.length→len=B.length→rest.length<f →
  e0d (n+10) f (ms,a,b,bkM B,got,totS k ((pre.filterMap (i0q ms a b)).map toP),B.map Prod.fst,len,ix,())=some (.inl (got,totS k ((B.filterMap (i0q ms a b)).map toP),())):=by
 have hBl:B.length≤40:=Nat.le_trans (Nat.le_trans (i1m fun p hp=>(h.bk p hp).2.2) h.sum) hN;have hbk:∀L:Bk,(∀p∈L,p∈B)→∀q∈(L.filterMap (i0q ms a b)).map toP,b0h q.2.2.1:=by
  intro L hL q hq;obtain ⟨q0,h0,rfl⟩:=List.mem_map.1 hq;obtain ⟨p,hp,hb⟩:=List.mem_filterMap.1 h0;obtain ⟨_,rfl⟩:=n0j.1 hb;exact e0g (s0b (h.bk p (hL p hp)).2.1 a b)
 intro rest;induction rest with
 | nil =>
  intro pre f ix len ha hi hn hf;obtain ⟨f,rfl⟩:=c0d hf;rw[n0p,decide_eq_false (by rw[hi,hn,ha];simp),tff,ha,List.append_nil]
 | cons x r ih =>
  intro pre f ix len ha hi hn hf;obtain ⟨f,rfl⟩:=c0d hf;obtain ⟨l,es⟩:=x;have hmem:(l,es)∈B:=by rw[ha];simp
  have hat:at? (B.map Prod.fst) ix=some l:=by
   have:B.map Prod.fst=pre.map Prod.fst++l::r.map Prod.fst:=by rw[ha];simp
   exact b0s this (by simpa using hi)
  have hpl:pre.length+(r.length+1)=B.length:=by rw[ha];simp
  have hpre:pre.length≤40:=by omega
  have hcok:b0h (cellOf (es.filter (inR a b))):=e0g (s0b (h.bk _ hmem).2.1 a b);have hlab:=(h.bk _ hmem).1.n1;have hnext:=ih (pre++[(l,es)]) f (ix+1) len (idxl ha) (idxs hi) hn (by simp at hf;omega);rw[List.filterMap_append,List.map_append] at hnext;rw[n0p,decide_eq_true (by rw[hi,hn];omega),tft,hat,obs,z0u n h (by omega) l a b,obs,l0g h.nd hmem,w64 (x:=ix+1) (by omega) (by omega),tfd];simp only;have c0:=(g0x hcok).1.1;by_cases hz:(cellOf (es.filter (inR a b))).1=0
  ·have hb:i0q ms a b (l,es)=none:=by unfold i0q;rw[if_neg (fun k=>by have:=k.2;simp only at this;omega)]
   simp only[List.filterMap_cons,hb,List.filterMap_nil,List.map_nil,List.append_nil] at hnext;rw[if_pos hz];exact hnext
  rw[if_neg hz,z0j (n+5) ms hm l (by simp only at hlab;omega),obs];cases hh:z0q ms l with
  | false =>
   have hb:i0q ms a b (l,es)=none:=by unfold i0q;rw[if_neg (fun k=>by have:=k.1;simp only[hh] at this;cases this)]
   simp only[List.filterMap_cons,hb,List.filterMap_nil,List.map_nil,List.append_nil] at hnext;simp only[Bool.not_false,tft];exact hnext
  | true =>
   have hb:i0q ms a b (l,es)=some (l,cellOf (es.filter (inR a b))):=by unfold i0q;rw[if_pos ⟨hh,by unfold fE at c0;simp only;omega⟩]
   simp only[List.filterMap_cons,hb,List.filterMap_nil,List.map_cons,List.map_nil] at hnext;simp only[Bool.not_true,tff];have hpok:=hbk pre (fun p hp=>by rw[ha];simp[hp]);have hplen:((pre.filterMap (i0q ms a b)).map toP).length≤1000:=by
    rw[List.length_map];exact Nat.le_trans (List.length_filterMap_le _ _) (by omega)
   obtain ⟨t1,t2⟩:=j2w (k:=k) hpok hcok hplen l;have hw1:WdOk (totS k ((pre.filterMap (i0q ms a b)).map toP)).2.2.2.1:=m1r (q0u (f:=fI) fun p hp=>(g0x (hpok p hp)).2.1).1 (by
    have:=(q0u (f:=fI) fun p hp=>(g0x (hpok p hp)).2.1).2
    omega)
   rw[n1n (n+8) hw1 (g0z hcok).1,t1,obs];simp only[decide_true,Bool.not_true,tff];rw[t2];exact hnext
theorem totV_no {s:Sta} {ms:List Mat} {t a b:Int} (h:(totV s ms t a b).2≠0):(totV s ms t a b).1=tz0:=by
 unfold totV at h ⊢;by_cases k:(i0t s ms t a b).2.2=0
 ·rw[if_pos k] at h ⊢;exact b2p _ _ _ h
 ·rw[if_neg k]
theorem totV_yes {s:Sta} {ms:List Mat} {t a b:Int} (hs:StaOk s) (h:(totV s ms t a b).2=0):j1s ms∧(b0q s t a b).2=0:=by
 by_cases hm:j1s ms
 ·refine ⟨hm,?_⟩;by_cases ht:(b0q s t a b).2=0
  ·exact ht
  ·rw[totV_err hs hm ht] at h;exact absurd h ht
 ·unfold totV i0t at h;rw[if_pos hs,if_neg hm,if_neg (by decide)] at h;cases h
theorem t1b (n:Nat) (c:Conf) (acts:List Act) (ms:List Mat) (t0 a b:Int) (hc:Wf a0n c) (ha:Wf (.slice b0y) acts) (hm:Wf (.slice a0r) ms):f1z (n+41) c acts ms t0 a b=some true:=by
 obtain ⟨a1,a2,a3⟩:=s1j ha;have hk:∀m∈ms,0≤m.1:=fun m h=>s66_mat (hm.2 m h)
 rw[j1z,i0x n,obs,tfn,tft];rcases d2i (n+32) c with h | ⟨h,h0⟩
 ·rw[h];rfl
 rw[h,obs,tfn,tft];rcases u0l (n+38) acts a1 a2 with h1 | ⟨h1,h40⟩
 ·rw[h1];rfl
 rw[h1,obs,tfn,tft];rcases k2w (n+39) ms (Nat.le_trans hm.1 (by decide)) with h2 | ⟨h2,hm40⟩
 ·rw[h2];rfl
 rw[h2,obs,show (decide ((1:Int)=0))=false from rfl,tff,m0e (n+33),obs,r0y,obs,tfn,tfd,if_pos h0];obtain ⟨s,B,e1,hs⟩:=sums_l10 (n+15) ms t0 a b acts h40 a3 acts [] a0b (l0e c).1 [] 0 _ rfl rfl rfl (by unfold a0b;omega) (.new h0);rw[s1f] at e1;rw[e1,obs,a0w];simp only;rw[total_do (n+14) hs.w ms (by omega) hk,obs,tfn,tfd];by_cases g:(totV s ms t0 a b).2=0
 case neg =>
  rw[if_neg g,totV_no g];rfl
 rw[if_pos g];obtain ⟨hmo,ht⟩:=totV_yes hs.ok g;rw[j2v hs.ok hmo ht];rw[flat_all (n+38) hs (by omega),obs];simp only;have hlen:(B.map Prod.fst).length=B.length:=by simp
 have e2:=sums_l22 (n+30) hs (by omega) (show ms.length≤1000000 by omega) a b (b0q s t0 a b).1 (totS (b0q s t0 a b).1 (m0v s ms (b0q s t0 a b).1 a b)) B [] a0b 0 ((List.length (B.map Prod.fst):Nat):Int) rfl rfl (by rw[hlen]) (by
  have:B.length≤40:=Nat.le_trans (i1m fun p hp=>(hs.bk p hp).2.2) hs.sum
  unfold a0b;omega)
 have hz:((totS (b0q s t0 a b).1 (m0v s ms (b0q s t0 a b).1 a b)).1,((0:Int),((0:Int),(((0:Int),(0:Int)),((0:Int),((0:Int),(0:Int)))))))=totS (b0q s t0 a b).1 ((([]:Bk).filterMap (i0q ms a b)).map toP):=by
  unfold totS sm;simp only[List.filterMap_nil,List.map_nil,List.length_nil,List.sum_nil,c2o];rfl
 rw[hz,e2,obs,a0w];simp only;obtain ⟨k1,k2⟩:=k2d (ms:=ms) hs ht;have hsame:totS (b0q s t0 a b).1 ((B.filterMap (i0q ms a b)).map toP)=totS (b0q s t0 a b).1 (m0v s ms (b0q s t0 a b).1 a b):=by
  unfold totS;simp only[sm_toP,List.length_map,←k2,k1]
 rw[hsame];simp only[decide_true,Bool.and_self]
theorem s66_fr {f:Wd×Wd} (h:Wf b0v f):FrW f:=⟨⟨h.1.1,h.1.2⟩,⟨h.2.1,h.2.2⟩⟩
theorem b2x {c:Cel} (hc:b0h c) (hs:¬c.2.2.2.2.2.2<1):(k1m c.2.2.2.1 c.2.2.2.2.2.2).2=0:=by
 have hI:=(g0x hc).2.1;unfold fI at hI;unfold k1m;rw[if_neg (by omega),if_pos (by omega)];unfold redV;rw[if_neg (by omega)]
theorem n1z (n:Nat) (c:Conf) (acts:List Act) (w:Wat) (hc:Wf a0n c) (ha:Wf (.slice b0y) acts) (hw:Wf k0l w):c1r (n+41) c acts w=some true:=by
 obtain ⟨a1,a2,a3⟩:=s1j ha;have hfr:FrW w.2:=s66_fr hw.2;rw[g1b,a1r n,obs,tfn,tft];rcases d2i (n+32) c with h | ⟨h,h0⟩
 ·rw[h];rfl
 rw[h,obs,tfn,tft];rcases u0l (n+38) acts a1 a2 with h1 | ⟨h1,h40⟩
 ·rw[h1];rfl
 rw[h1,obs,tfn,tft];rcases z0o (n+39) w.1.1 (e2h hw.1) with h2 | h2
 ·rw[h2];rfl
 rw[h2,obs,show (decide ((1:Int)=0))=false from rfl,tff,m0e (n+33),obs,r0y,obs,tfn,tfd,if_pos h0];obtain ⟨s,B,e1,hs⟩:=q2b (n+15) w acts h40 a3 acts [] a0b (l0e c).1 [] 0 _ rfl rfl rfl (by unfold a0b;omega) (.new h0);rw[s1f] at e1;rw[e1,obs,a0w];simp only;rw[j2l (n+15) hs.w hfr,obs,r0h (n+35) hfr,obs,tfn,tfd];obtain ⟨⟨l,t0,a,b⟩,fr⟩:=w;simp only at *
 unfold oneW;rw[if_pos hs.ok];simp only;by_cases hf:u0e fr
 case neg=>rw[if_neg hf,if_neg hf,if_neg (by decide)];rfl
 rw[if_pos hf,if_pos hf,if_pos rfl,y0z (n+16) hs.w,obs,tfn,tfd];simp only;by_cases g:(doQ s l t0 a b).2=0
 case neg=>rw[if_neg g,if_neg g];simp only[Bool.not_false,tft,decide_true]
 rw[if_pos g,if_pos g];obtain ⟨_,_,ht,e⟩:=r1m g;have hans:=t0w hs g;have hrate:(doQ s l t0 a b).1.2.2=h1e (doQ s l t0 a b).1.2.1:=by rw[e]
 rw[hrate,hans,z0u (n+30) hs (by omega) l a b,obs,tfd];simp only;have hcok:b0h (cellOf ((evsB B l).filter (inR a b))):=e0g (s0b (s1e hs l) a b);generalize cellOf ((evsB B l).filter (inR a b))=C at *
 unfold h1e;by_cases hz:C.2.2.2.2.2.2<1
 ·rw[if_pos hz,if_pos hz];rfl
 rw[if_neg hz,if_neg hz,b2x hcok hz];have hS:=(g0x hcok).2.2.2.2;unfold fS at hS;have hq:=l2f (g0z hcok).1 (ms:=C.2.2.2.2.2.2) (by omega);rw[if_pos rfl,wu64 (by omega) (by omega),m1e (n+34) (g0z hcok).1 (by omega),obs,g1y (n+34) hq.1 hfr,obs,b2x hcok hz,show (decide ((0:Int)=0))=true from rfl,tft];by_cases k:(v1j (k1m C.2.2.2.1 C.2.2.2.2.2.2).1 fr).2=0
 ·rw[if_pos k,k];simp only[decide_true,tft,beq_self_eq_true]
 ·rw[if_neg k,decide_eq_true rfl,tft,decide_eq_false k,tff];simp only[beq_self_eq_true]
end Go.Proofs.YtojobamheigpbaaGreatDoor
