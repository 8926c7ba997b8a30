/-
 Plain proofs about the functions of this seat, part 2 of 3.
-/
import Derived.Test.YtagnkfbpgkckiaaGreatDoorQ1
namespace Go.Proofs.YtagnkfbpgkckiaaGreatDoor
open Go.Flat Go.Plim
set_option linter.unusedVariables false
set_option linter.unusedSimpArgs false
theorem e2h (n:Nat) (l:List Slo) (h:l.length≤1000000):r0c (n+1) l=some l:=by
 rw[c1z];simp only[tfd,if_pos (show (0+l.length)*120≤140737488355328 by omega),List.nil_append];by_cases h0:l.length=0
 ·obtain rfl:=List.length_eq_zero_iff.1 h0;simp
 ·rw[if_neg h0]
section
variable {del:a0c×Unit→Option Bool} {p:Slo→Bool} (hd:∀x,del (x,())=some (p x))
include hd
theorem i2y (n:Nat) (l:List Slo) (hL:l.length≤1000000):∀(rest pre:List Slo) (f:Nat) (i len:Int),l=pre++rest→i=pre.length→len=l.length→rest.length<f →
  (d0m n f (l,del,len,i,())=some (.inl ())∧∀x∈rest,p x=false) ∨
  (∃A x B,rest=A++x::B∧(∀y∈A,p y=false)∧p x=true∧d0m n f (l,del,len,i,())=some (.inr (i+A.length))):=by
 intro rest;induction rest with
 | nil =>
  intro pre f i len hl hi hn hf;obtain ⟨f,rfl⟩:∃g,f=g+1:=⟨f-1,by simp at hf;omega⟩;rw[i0x];exact .inl ⟨by simp only[tfd,if_neg (idxe hl hi hn)],by simp⟩
 | cons x rest ih =>
  intro pre f i len hl hi hn hf;obtain ⟨f,rfl⟩:∃g,f=g+1:=⟨f-1,by simp at hf;omega⟩;rw[i0x];simp only[tfd,if_pos (idx hl hi hn),c0f hl hi,obs,hd,idxw hl hi (by omega)];cases hp:p x with
  | true=>exact .inr ⟨[],x,rest,rfl,by simp,hp,by simp⟩
  | false =>
   rw[tff];rcases ih (pre++[x]) f (i+1) len (idxl hl) (idxs hi) hn (by simp at hf;omega) with ⟨h1,h2⟩ | ⟨A,y,B,h1,h2,h3,h4⟩
   ·exact .inl ⟨h1,by intro z hz;rcases List.mem_cons.1 hz with rfl | hz;exact hp;exact h2 z hz⟩
   ·refine .inr ⟨x::A,y,B,by rw[h1];rfl,?_,h3,by rw[h4,List.length_cons,show i+1+(A.length:Int)=i+((A.length+1:Nat):Int) by omega]⟩;intro z hz;rcases List.mem_cons.1 hz with rfl | hz
    ·exact hp
    ·exact h2 z hz
theorem delete_l (n:Nat) (l0:List Slo) (hL:l0.length≤1000000):∀(rest F G:List Slo) (f:Nat) (i j:Int),(F++(G++rest)).length=l0.length→G≠[]→i=F.length→j=F.length+G.length→rest.length<f →
  ∃G',d0g n f (F++(G++rest),del,i,j,())=some (.inl (F++rest.filter (fun x => !p x)++G',(F++rest.filter (fun x => !p x)).length,()))∧(F++rest.filter (fun x => !p x)++G').length=l0.length:=by
 intro rest;induction rest with
 | nil =>
  intro F G f i j hl hg hi hj hf;obtain ⟨f,rfl⟩:∃g,f=g+1:=⟨f-1,by simp at hf;omega⟩;rw[i0o];have:¬(j<((F++(G++[])).length:Int)):=by simp;omega
  simp only[tfd,if_neg this];exact ⟨G,by simp[hi],by simpa using hl⟩
 | cons x rest ih =>
  intro F G f i j hl hg hi hj hf;obtain ⟨f,rfl⟩:∃g,f=g+1:=⟨f-1,by simp at hf;omega⟩;rw[i0o];simp only[List.length_append,List.length_cons] at hl;have hlt:j<((F++(G++x::rest)).length:Int):=by simp;omega
  have hat:at? (F++(G++x::rest)) j=some x:=c0f (pre:=F++G) (rest:=rest) (by simp) (by simp;omega);have hget:(F++(G++x::rest))[j.toNat]? = some x:=by
   rw[show j.toNat=F.length+G.length by omega,List.getElem?_append_right (by omega),List.getElem?_append_right (by omega)];simp
  simp only[tfd,if_pos hlt,hat,hget,obs,hd];have wj:IntKind.wrap .i64 (j+1)=j+1:=by rw[w64 (by omega) (by omega)]
  have wi:IntKind.wrap .i64 (i+1)=i+1:=by rw[w64 (by omega) (by omega)]
  rw[wj,wi]
  match G,hg with
  | g::G,_ =>
  cases hp:p x with
  | false =>
   have hat':at? (F++(g::G++x::rest)) i=some g:=c0f (pre:=F) (rest:=G++x::rest) (by simp) hi;have hget':(F++(g::G++x::rest))[i.toNat]? = some g:=by
    rw[show i.toNat=F.length by omega];simp
   have hset:(F++(g::G++x::rest)).set i.toNat x=(F++[x])++((G++[x])++rest):=by
    rw[show i.toNat=F.length by omega,List.set_append_right _ _ (by omega)];simp
   simp only[Bool.not_false,tft,hat',hget',obs,hset];obtain ⟨G',h1,h2⟩:=ih (F++[x]) (G++[x]) f (i+1) (j+1) (by simp at hl ⊢;omega) (by simp) (by simp;omega) (by simp at hj ⊢;omega) (by simp at hf;omega);refine ⟨G',?_,?_⟩
   ·rw[h1];simp[List.filter_cons,hp]
   ·rw[←h2];simp[List.filter_cons,hp]
  | true =>
   simp only[Bool.not_true,tff];obtain ⟨G',h1,h2⟩:=ih F (g::G++[x]) f i (j+1) (by simp at hl ⊢;omega) (by simp) hi (by simp at hj ⊢;omega) (by simp at hf;omega);simp only[List.append_assoc,List.singleton_append] at h1;refine ⟨G',?_,?_⟩
   ·rw[h1];simp[List.filter_cons,hp]
   ·rw[←h2];simp[List.filter_cons,hp]
theorem x1t (n:Nat) (l:List Slo) (hL:l.length≤1000000):j0a (n+2) l del=some (l.filter fun x => !p x):=by
 rw[t0d,l0m];rcases i2y hd n l hL l [] a0b 0 l.length rfl rfl rfl (by unfold a0b;omega) with ⟨h1,h2⟩ | ⟨A,x,B,h1,h2,h3,h4⟩
 ·rw[h1];simp only[obs,a0y,tfd,if_pos trivial];exact congrArg some (List.filter_eq_self.2 fun y hy=>by simp[h2 y hy]).symm
 ·rw[h4];have hl:l.length=A.length+(B.length+1):=by rw[h1];simp
  simp only[obs,m0z,tfd,Int.zero_add];rw[if_neg (by omega),w64 (x:=(A.length:Int)+1) (by omega) (by omega)];obtain ⟨G',g1,g2⟩:=delete_l hd (n+1) l hL B A [x] a0b (A.length:Int) (A.length+1) (by rw[h1];simp) (by simp) rfl (by simp) (by unfold a0b;omega);rw[show A++([x]++B)=l by rw[h1];simp] at g1;rw[g1];have hF:A++B.filter (fun x => !p x)=l.filter fun x => !p x:=by
   rw[h1,List.filter_append,List.filter_cons];have:A.filter (fun x => !p x)=A:=List.filter_eq_self.2 fun y hy=>by simp[h2 y hy]
   simp[h3,this]
  rw[hF] at g2 ⊢;generalize (l.filter fun x => !p x)=F at *
  simp only[obs,a0y,e1n,tfd,Int.toNat_natCast];have hle:F.length≤(F++G').length:=by simp
  have k1:putRow (F++G') F.length (List.replicate ((F++G').length-F.length) s0)=F++List.replicate ((F++G').length-F.length) s0:=by
   unfold putRow;rw[List.drop_of_length_le (by simp)];simp
  have k2:=k1;simp only[s0,z0,e0] at k2;rw[k2,if_pos (by omega),if_pos hle,if_pos (by omega),if_pos (by omega),if_pos (by simp;omega)];simp
end
theorem k2h (n:Nat) (x y:Int):k0c (n+2) x y=some (if x<y then -1 else if y<x then 1 else 0):=by
 rw[v0h,o0q,o0q];simp only[decide_true,Bool.not_true,obs,tff,tfd];by_cases h1:x<y
 ·rw[if_pos h1,if_pos h1]
 ·rw[if_neg h1,if_neg h1];by_cases h2:y<x
  ·rw[if_pos h2,if_pos h2]
  ·rw[if_neg h2,if_neg h2]
theorem k2i (n:Nat):Cmp (fun y3=>u0j (n+3) y3.1 y3.2.1) (fun s=>s.1):=by
 intro x y;refine ⟨if x.1<y.1 then -1 else if y.1<x.1 then 1 else 0,?_,?_⟩
 ·show u0j (n+3) x y=_;rw[l1u,k2h];rfl
 ·by_cases h1:x.1<y.1
  ·simp[h1]
  ·by_cases h2:y.1<x.1
   ·simp[h1,h2]
   ·simp[h1,h2]
theorem f1p {l:List Slo} (h:Srt (fun s=>s.1) l 0 l.length):l.Pairwise fun a b=>a.1≤b.1:=by
 rw[List.pairwise_iff_getElem];intro i j hi hj hij;exact h i j _ _ (by omega) hij hj (List.getElem?_eq_getElem hi) (List.getElem?_eq_getElem hj)
theorem tier_all (n:Nat) {l:List Slo} {w:Int} (h:TierOk l w):l1v (n+17) l=some (tall l):=by
 have hl:=h.l1;rw[u1w,e2h _ l (by omega)];simp only[obs];rw[x1t (del:=fun y1=>s0v (n+16) y1.1) (p:=fun s=>decide (s=s0)) (fun x=>x0s (n+15) x) (n+14) l (by omega)];simp only[obs];have e:(l.filter fun x => !decide (x=s0))=s0h l:=by unfold s0h;congr 1;funext x;simp
 rw[e];have hle:(s0h l).length≤l.length:=List.length_filter_le _ _;obtain ⟨d',r1,r2,r3⟩:=m1g (k2i (n+13)) n 12 (s0h l) (by omega) (by omega);rw[r1];rw[←r2.length_eq] at r3;rw[tall_eq h r2 (f1p r3)];rfl
theorem ev_wf {e:Ev} (h:Wf a0h e):EvW e:=by
 obtain ⟨h1,h2,h3,_⟩:=h;exact ⟨h1,h2,h3⟩
theorem cel_wf {c:Cel} (h:Wf b0y c):CelW c:=by
 obtain ⟨h1,h2,h3,⟨h4,h5⟩,h6,h7,h8⟩:=h;exact ⟨h1,ev_wf h2,ev_wf h3,⟨h4,h5⟩,h6,h7,h8⟩
theorem slo_wf {s:Slo} (h:Wf a0d s):SloW s:=by
 obtain ⟨h1,h2⟩:=h;exact ⟨h1,cel_wf h2⟩
theorem v1m {l:List Slo} (h:Wf (.slice a0d) l):∀s∈l,SloW s:=fun s hs=>slo_wf (h.2 s hs)
def inW (i k:Int) (s:Slo):Bool:=decide (i≤s.1∧s.1<k)
theorem u1v (n:Nat) (i k:Int) (s6:Cel) (l:List Slo) (hL:l.length≤1000000):∀(rest pre:List Slo) (f:Nat) (cells:List Cel) (ix len:Int),l=pre++rest→ix=pre.length→len=l.length→rest.length<f→cells.length≤pre.length →
  i0m n f (i,k,s6,cells,l,len,ix,())=some (.inl (s6,cells++(rest.filter (inW i k)).map (·.2),())):=by
 intro rest;induction rest with
 | nil =>
  intro pre f cells ix len hl hi hn hf hc;obtain ⟨f,rfl⟩:∃g,f=g+1:=⟨f-1,by simp at hf;omega⟩;rw[s0x];simp only[tfd,if_neg (idxe hl hi hn),List.filter_nil,List.map_nil,List.append_nil]
 | cons x rest ih =>
  intro pre f cells ix len hl hi hn hf hc;obtain ⟨f,rfl⟩:∃g,f=g+1:=⟨f-1,by simp at hf;omega⟩;rw[s0x];have hp:pre.length+1≤l.length:=by have:=congrArg List.length hl;simp at this;omega
  simp only[tfd,if_pos (idx hl hi hn),c0f hl hi,obs,idxw hl hi (by omega)];by_cases h1:i≤x.1
  ·rw[if_pos h1];by_cases h2:x.1<k
   ·rw[if_pos h2,if_pos (by omega),ih (pre++[x]) f _ (ix+1) len (idxl hl) (idxs hi) hn (by simp at hf;omega) (by simp;omega)];have:inW i k x=true:=by simp[inW,h1,h2]
    rw[List.filter_cons_of_pos this];simp
   ·rw[if_neg h2,ih (pre++[x]) f _ (ix+1) len (idxl hl) (idxs hi) hn (by simp at hf;omega) (by simp;omega)];rw[List.filter_cons_of_neg (by simp[inW,h2])]
  ·rw[if_neg h1,ih (pre++[x]) f _ (ix+1) len (idxl hl) (idxs hi) hn (by simp at hf;omega) (by simp;omega)];rw[List.filter_cons_of_neg (by simp[inW,h1])]
theorem within_w {l:List Slo} {w:Int} (h:TierOk l w) (i k:Int):∀c∈within l i k,CellN c:=by
 intro c hc;simp only[within,List.mem_map,List.mem_filter] at hc;obtain ⟨s,⟨hs,_⟩,rfl⟩:=hc;exact (s0z h hs).1.n
theorem y1o {l:List Slo}:(tall l).length≤l.length:=by
 rw[(x0v l).length_eq];exact List.length_filter_le _ _
theorem a2t (l:List Slo) (i k:Int):(within l i k).length≤l.length:=by
 unfold within;rw[List.length_map];exact Nat.le_trans (List.length_filter_le _ _) y1o
theorem s0w (n:Nat) {l:List Slo} {w:Int} (h:TierOk l w) (i k:Int):m0o (n+18) l i k=some (j0p l i k):=by
 have l1:=h.l1;have ht:=y1o (l:=l);rw[q1m];simp only[tfd];unfold j0p;by_cases h1:i<0
 ·rw[if_pos h1,if_pos (.inl h1)];rfl
 by_cases h2:k<i
 ·rw[if_neg h1,if_pos h2,if_pos (.inr h2)];rfl
 rw[if_neg h1,if_neg h2,if_neg (by omega),tier_all n h];simp only[obs];rw[u1v (n+17) i k _ (tall l) (by omega) (tall l) [] a0b [] 0 _ rfl rfl rfl (by unfold a0b;omega) (by simp)];simp only[obs,a0y,List.nil_append];have e:List.map (·.2) (List.filter (inW i k) (tall l))=within l i k:=rfl;rw[e,cell_all (n+10) _ (by have:=a2t l i k;omega) (fun c hc => .ofN (within_w h i k c hc))];rfl
theorem v1l:SloW s0:=⟨by simp[I64,s0],b1k⟩
theorem l1w {l:List Slo} {w:Int} (h:TierOk l w):∀s∈l,SloW s:=by
 intro s hs;obtain ⟨j,hj⟩:=List.getElem?_of_mem hs;rcases h.s j s hj with rfl | ⟨_,hf⟩
 ·exact v1l
 ·have:=hf.i0;exact ⟨by unfold I64;omega,.ofN hf.n⟩
theorem g2s {e:Ev} (h:EvOk e) {w:Int} (hw:1≤w):IntKind.wrap .i64 (Int.tdiv e.1 w)=e.1 / w:=by
 have h0:=h.t0;have h1:=h.t1;have:0≤e.1 / w:=Int.ediv_nonneg h0 (by omega);have:e.1 / w≤e.1:=Int.ediv_le_self _ h0;rw[w0j h0,w64 (by omega) (by omega)]
end Go.Proofs.YtagnkfbpgkckiaaGreatDoor

namespace Go.Plim
set_option linter.unusedVariables false
def rng (w:Int) (l:List Ev) (i k:Int):List Ev:=l.filter fun e=>decide (i≤e.1 / w∧e.1 / w<k)
def win (w:Int) (l:List Ev) (i:Int):List Ev:=l.filter fun e=>decide (e.1 / w=i)
theorem tall_N {l:List Slo} {w:Int} (h:TierOk l w) {s:Slo} (hs:s∈tall l):CellN s.2:=(s0z h hs).1.n
structure TierInv (t:List Slo) (w:Int) (l:List Ev):Prop where
 ok:TierOk t w
 cells:∀s∈tall t,s.2=cellOf (win w l s.1)
 kept:∀i,(∃e∈l,e.1 / w=i)→(∀e∈l,e.1 / w<i+(t.length:Int))→(i,cellOf (win w l i))∈tall t
end Go.Plim

namespace Go.Proofs.YtagnkfbpgkckiaaGreatDoor
open Go.Flat Go.Plim
set_option linter.unusedVariables false
abbrev Trs:=List Slo×(List Slo×List Slo)
noncomputable instance (c:Conf):Decidable (OkC c):=Classical.propDecidable _
structure FoldOk (c:Conf) (s:Trs):Prop where
 cok:OkC c
 n0:(s.1.length:Int)=c.2.2.1.1
 n1:(s.2.1.length:Int)=c.2.2.1.2.1
 n2:(s.2.2.length:Int)=c.2.2.1.2.2
 t0:TierOk s.1 c.2.1.1
 t1:TierOk s.2.1 c.2.1.2.1
 t2:TierOk s.2.2 c.2.1.2.2
noncomputable instance (c:Conf) (s:Trs):Decidable (FoldOk c s):=Classical.propDecidable _
def mk1 (c:Conf) (s:Trs) (i:Int):Cel×Int:=j0p s.1 (i*(c.2.1.2.1 / c.2.1.1)) ((i+1)*(c.2.1.2.1 / c.2.1.1))
theorem c2y {a w m:Int} (hw:1≤w) (h:a≤m / w):a*w≤m :=
 Int.le_trans (Int.mul_le_mul_of_nonneg_right h (by omega)) (Int.ediv_mul_le m (by omega))
def Begins (w i:Int):Prop:=0≤i∧i≤35184372088831 / w
theorem Begins.mul {w i:Int} (hw:1≤w) (h:Begins w i):0≤i*w∧i*w≤35184372088831:=⟨Int.mul_nonneg h.1 (by omega),c2y hw h.2⟩
end Go.Proofs.YtagnkfbpgkckiaaGreatDoor
namespace Go.Proofs.YtagnkfbpgkckiaaGreatDoor
open Go.Flat Go.Plim
set_option linter.unusedVariables false
set_option linter.unusedSimpArgs false
structure TrsW (s:Trs):Prop where
 a:∀x∈s.1,SloW x
 b:∀x∈s.2.1,SloW x
 c:∀x∈s.2.2,SloW x
theorem FoldOk.w {c:Conf} {s:Trs} (h:FoldOk c s):TrsW s:=⟨l1w h.t0,l1w h.t1,l1w h.t2⟩
theorem b1g (n:Nat) (c:Conf):e0b (n+3) c=some (if OkC c then 0 else 2):=by
 by_cases h:OkC c
 ·rw[if_pos h,z0p n h]
 ·rw[if_neg h,a2h n h]
theorem o1k (n:Nat) (c:Conf) {s:Trs} (hw:TrsW s):g1g (n+8) c s=some (if FoldOk c s then (some (c,s),0) else (none,2)):=by
 rw[t1c,b1g (n+4),z0y n _ _ hw.a,z0y n _ _ hw.b,z0y n _ _ hw.c];simp only[obs,tfn,tfd];by_cases h0:OkC c
 case neg=>rw[if_neg (mt (z02 _).1 h0),if_neg h0,if_neg (fun k:FoldOk c s=>h0 k.cok)]
 rw[if_pos ((z02 _).2 h0)];by_cases h1:(s.1.length:Int)=c.2.2.1.1
 case neg=>rw[if_neg h1,if_neg (fun k:FoldOk c s=>h1 k.n0)]
 rw[if_pos h1];by_cases h2:TierOk s.1 c.2.1.1
 case neg=>rw[if_neg (mt (z02 _).1 h2),if_neg (fun k:FoldOk c s=>h2 k.t0)]
 rw[if_pos ((z02 _).2 h2)];by_cases h3:(s.2.1.length:Int)=c.2.2.1.2.1
 case neg=>rw[if_neg h3,if_neg (fun k:FoldOk c s=>h3 k.n1)]
 rw[if_pos h3];by_cases h4:TierOk s.2.1 c.2.1.2.1
 case neg=>rw[if_neg (mt (z02 _).1 h4),if_neg (fun k:FoldOk c s=>h4 k.t1)]
 rw[if_pos ((z02 _).2 h4)];by_cases h5:(s.2.2.length:Int)=c.2.2.1.2.2
 case neg=>rw[if_neg h5,if_neg (fun k:FoldOk c s=>h5 k.n2)]
 rw[if_pos h5];by_cases h6:TierOk s.2.2 c.2.1.2.2
 case neg=>rw[if_neg (mt (z02 _).1 h6),if_neg (fun k:FoldOk c s=>h6 k.t2)]
 rw[if_pos ((z02 _).2 h6),if_pos (⟨h0,h1,h3,h5,h2,h4,h6⟩:FoldOk c s)]
theorem d2q (n:Nat) (c:Conf) {s:Trs} (hw:TrsW s):b1d (n+9) c s=some (if FoldOk c s then 0 else 2):=by
 rw[o1l,o1k n c hw];by_cases h:FoldOk c s
 ·rw[if_pos h,if_pos h];rfl
 ·rw[if_neg h,if_neg h];rfl
noncomputable def emp (c:Conf):Trs:=if OkC c then (List.replicate c.2.2.1.1.toNat s0,(List.replicate c.2.2.1.2.1.toNat s0,List.replicate c.2.2.1.2.2.toNat s0)) else ([],([],[]))
theorem allE_okc (l:List Cel):∀c,c0g c→c0g (allE c l).1:=by
 induction l with
 | nil=>intro c h;exact h
 | cons x l ih =>
  intro c h;simp only[allE];split
  ·rename_i k;exact ih _ (h2t k).2.2.2.2
  ·exact t0p
theorem x0u (l:List Slo) (i k:Int):c0g (j0p l i k).1:=by
 unfold j0p;split
 ·exact t0p
 ·exact allE_okc _ _ t0p
theorem FoldOk.lens {c:Conf} {s:Trs} (h:FoldOk c s):s.1.length≤1000000∧s.2.1.length≤1000000∧s.2.2.length≤1000000:=by
 have:=h.t0.l1;have:=h.t1.l1;have:=h.t2.l1;omega
theorem trs_wf {s:Trs} (h:Wf (.wrap (.pair (.slice a0d) (.pair (.slice a0d) (.slice a0d)))) s):TrsW s:=by
 obtain ⟨h1,h2,h3⟩:=h;exact ⟨v1m h1,v1m h2,v1m h3⟩
abbrev Ser:=List Lab×(Int×(Rw×(Trs×Slo)))
structure SerW (s:Ser):Prop where
 last:I64 s.2.1
 raw:RawW s.2.2.1
 trs:TrsW s.2.2.2.1
 opn:SloW s.2.2.2.2
def d0k (l:List Slo) (i:Int):Prop:=∀s∈l,0<s.2.1→s.1<i
noncomputable instance (l i):Decidable (d0k l i):=Classical.propDecidable _
structure Fresh (s:Ser):Prop where
 raw:s.2.2.1.2.2=[]
 opn:s.2.2.2.2=s0
 b0:d0k s.2.2.2.1.1 0
 b1:d0k s.2.2.2.1.2.1 0
 b2:d0k s.2.2.2.1.2.2 0
structure EndsP (c:Conf) (s:Ser):Prop where
 last:∃e,s.2.2.1.2.2.getLast? = some e∧e.1=s.2.1
 ol:s.2.2.2.2.2.2.2.1.1=s.2.1
 fit:FitsP s.2.2.2.2.2 c.2.1.1 s.2.2.2.2.1
 b0:d0k s.2.2.2.1.1 (s.2.1 / c.2.1.1)
 b1:d0k s.2.2.2.1.2.1 (s.2.1 / c.2.1.2.1)
 b2:d0k s.2.2.2.1.2.2 (s.2.1 / c.2.1.2.2)
structure SerOk (c:Conf) (s:Ser):Prop where
 fold:FoldOk c s.2.2.2.1
 lab:LabOk s.1
 raw:RawOk s.2.2.1 c.1
 st:(s.2.1 = -1∧Fresh s)∨(s.2.1 ≠ -1∧EndsP c s)
noncomputable instance (s):Decidable (Fresh s):=Classical.propDecidable _
noncomputable instance (c s):Decidable (EndsP c s):=Classical.propDecidable _
noncomputable instance (c s):Decidable (SerOk c s):=Classical.propDecidable _
theorem o1z (n:Nat) {del:a0c×Unit→Option Bool} {p:Slo→Bool} (hd:∀x,del (x,())=some (p x)) (l:List Slo) (hL:l.length≤1000000):h0u (n+2) l del=some (l.any p):=by
 rw[r0b,l0m];rcases i2y hd n l hL l [] a0b 0 l.length rfl rfl rfl (by unfold a0b;omega) with ⟨h1,h2⟩ | ⟨A,x,B,h1,h2,h3,h4⟩
 ·rw[h1];have:l.any p=false:=by rw[List.any_eq_false];intro x hx;simp[h2 x hx]
  rw[this];rfl
 ·rw[h4];have:l.any p=true:=List.any_eq_true.2 ⟨x,by rw[h1];simp,h3⟩;simp only[obs,m0z,this,Int.zero_add];rw[decide_eq_true (by omega)]
theorem d0r (n:Nat) (l:List Slo) (i:Int) (hL:l.length≤1000000):e0f (n+3) l i=some (!decide (d0k l i)):=by
 rw[d1b,o1z (p:=fun s=>decide (0<s.2.1∧i≤s.1)) n (fun x=>by
  show m0x (n+1+1) x i=_;rw[y0j]
  by_cases h1:0<x.2.1<;>by_cases h2:i≤x.1<;>simp[h1,h2]) l hL]
 simp only[obs];refine congrArg some ?_;by_cases h:d0k l i
 ·rw[decide_eq_true h];rw[List.any_eq_false.2]
  ·rfl
  ·intro x hx k;have:=of_decide_eq_true k;have:=h x hx this.1;omega
 ·rw[decide_eq_false h];have:∃x∈l,0<x.2.1∧i≤x.1:=Classical.byContradiction fun k=>h fun x hx hc=>by
   rcases Int.lt_or_le x.1 i with q | q
   ·exact q
   ·exact absurd ⟨x,hx,hc,q⟩ k
  obtain ⟨x,hx,hq⟩:=this;rw[List.any_eq_true.2 ⟨x,hx,decide_eq_true hq⟩];rfl
theorem d2j (n:Nat) (c:Conf) {s:Ser} (hf:FoldOk c s.2.2.2.1):e1u (n+4) (c,s)=some (decide (Fresh s)):=by
 obtain ⟨l0,l1,l2⟩:=hf.lens;rw[q1x,sloEq0,d0r n _ _ l0,d0r n _ _ l1,d0r n _ _ l2];simp only[obs,Bool.not_not,tfd];by_cases h1:(s.2.2.1.2.2.length:Int)=0
 case neg=>rw[if_neg h1,decide_eq_false (fun k:Fresh s=>h1 (by rw[k.raw];rfl))]
 rw[if_pos h1];by_cases h2:s.2.2.2.2=s0
 case neg=>rw[if_neg h2,decide_eq_false (fun k:Fresh s=>h2 k.opn)]
 rw[if_pos h2];by_cases h3:d0k s.2.2.2.1.1 0
 case neg=>rw[if_neg h3,decide_eq_false (fun k:Fresh s=>h3 k.b0)]
 rw[if_pos h3];by_cases h4:d0k s.2.2.2.1.2.1 0
 case neg=>rw[if_neg h4,decide_eq_false (fun k:Fresh s=>h4 k.b1)]
 rw[if_pos h4];refine congrArg some (decide_eq_decide.2 ⟨fun k=>⟨List.length_eq_zero_iff.1 (by omega),h2,h3,h4,k⟩,fun k=>k.b2⟩)
theorem i2i {c:Conf} {s:Ser} (hr:RawOk s.2.2.1 c.1) {e:Ev} (he:s.2.2.1.2.2.getLast? = some e):EvOk e:=hr.f.ok e (List.mem_of_getLast? he)
theorem i2s (n:Nat) (c:Conf) {s:Ser} (hf:FoldOk c s.2.2.2.1) (hr:RawOk s.2.2.1 c.1) (hw:SerW s):d1q (n+7) (c,s)=some (decide (EndsP c s)):=by
 obtain ⟨l0,l1,l2⟩:=hf.lens;have hg:=hf.cok.rng;have hlen:=hr.len;have hm1:=hr.m1;rw[v1i,raw_last (n+5) s.2.2.1 (by omega)];cases hl:s.2.2.1.2.2.getLast? with
 | none =>
  simp only[obs];rw[show (decide ((3:Int)=0))=false from rfl,tff,decide_eq_false];intro k;obtain ⟨e,he,_⟩:=k.last;rw[hl] at he;cases he
 | some e =>
  have heo:=i2i hr hl;simp only[obs,decide_true,tft,tfd,if_true];by_cases h1:e.1=s.2.1
  case neg =>
   rw[if_neg h1,decide_eq_false];intro k;obtain ⟨e',he,hq⟩:=k.last;rw[hl] at he;injection he with he;subst he;exact h1 hq
  rw[if_pos h1];by_cases h2:s.2.2.2.2.2.2.2.1.1=s.2.1
  case neg=>rw[if_neg h2,decide_eq_false (fun k:EndsP c s=>h2 k.ol)]
  have q0:=g2s heo hg.w0.1;have q1:=g2s heo hg.w1.1;have q2:=g2s heo hg.w2.1;rw[h1] at q0 q1 q2;rw[if_pos h2,q1k n hw.opn.c];simp only[obs,tfd,q0,q1,q2,d0r (n+3) _ _ l0,d0r (n+3) _ _ l1,d0r (n+3) _ _ l2,Bool.not_not,if_neg (show ¬(c.2.1.1=0) by have:=hg.w0;omega),if_neg (show ¬(c.2.1.2.1=0) by have:=hg.w1;omega),if_neg (show ¬(c.2.1.2.2=0) by have:=hg.w2;omega)];by_cases h3:FitsP s.2.2.2.2.2 c.2.1.1 s.2.2.2.2.1
  case neg=>rw[if_neg h3,decide_eq_false (fun k:EndsP c s=>h3 k.fit)]
  rw[if_pos h3];by_cases h4:d0k s.2.2.2.1.1 (s.2.1 / c.2.1.1)
  case neg=>rw[if_neg h4,decide_eq_false (fun k:EndsP c s=>h4 k.b0)]
  rw[if_pos h4];by_cases h5:d0k s.2.2.2.1.2.1 (s.2.1 / c.2.1.2.1)
  case neg=>rw[if_neg h5,decide_eq_false (fun k:EndsP c s=>h5 k.b1)]
  rw[if_pos h5];refine congrArg some (decide_eq_decide.2 ⟨fun k=>⟨⟨e,hl,h1⟩,h2,h3,h4,h5,k⟩,fun k=>k.b2⟩)
theorem z08 (p:Prop) [Decidable p]:((if p then (0:Int) else 8)=0)↔p:=by by_cases h:p<;>simp[h]
theorem j0b (n:Nat) (c:Conf) {s:Ser} (hw:SerW s):r0f (n+10) c s=some (if SerOk c s then (some (c,s),0) else (none,2)):=by
 rw[h1y,d2q n c hw.trs,n0k (n+3),g2q (n+4) _ _ hw.raw];simp only[obs,tfn,tfd];by_cases h1:FoldOk c s.2.2.2.1
 case neg=>rw[if_neg (mt (z02 _).1 h1),if_neg (fun k:SerOk c s=>h1 k.fold)]
 by_cases h2:LabOk s.1
 case neg=>rw[if_pos ((z02 _).2 h1),if_neg (mt (z08 _).1 h2),if_neg (fun k:SerOk c s=>h2 k.lab)]
 by_cases h3:RawOk s.2.2.1 c.1
 case neg=>rw[if_pos ((z02 _).2 h1),if_pos ((z08 _).2 h2),if_neg (mt (z02 _).1 h3),if_neg (fun k:SerOk c s=>h3 k.raw)]
 rw[if_pos ((z02 _).2 h1),if_pos ((z08 _).2 h2),if_pos ((z02 _).2 h3),d2j (n+5) c h1,i2s (n+2) c h1 h3 hw];simp only[obs,tfd];by_cases h4:s.2.1 = -1
 ·rw[if_pos h4];by_cases h5:Fresh s
  ·rw[if_pos h5,if_pos (⟨h1,h2,h3,.inl ⟨h4,h5⟩⟩:SerOk c s)]
  ·rw[if_neg h5,if_pos h4,if_neg (fun k:SerOk c s=>by
    rcases k.st with q | q
    ·exact h5 q.2
    ·exact q.1 h4)]
 ·rw[if_neg h4,if_neg h4];by_cases h5:EndsP c s
  ·rw[if_pos h5,if_pos (⟨h1,h2,h3,.inr ⟨h4,h5⟩⟩:SerOk c s)]
  ·rw[if_neg h5,if_neg (fun k:SerOk c s=>by
    rcases k.st with q | q
    ·exact h4 q.1
    ·exact h5 q.2)]
theorem s1c {l:List Slo} {w:Int} (h:TierOk l w) (i:Int):d0k l i↔∀s∈tall l,s.1<i:=by
 constructor
 ·intro k s hs;have:=(tall_N h hs).n1;exact k s (n1q.1 hs).1 (by omega)
 ·intro k s hs hc;exact k s (n1q.2 ⟨hs,fun e=>by rw[e] at hc;simp[s0,z0] at hc⟩)
theorem nn {α:Type} {a b:α} (h:a=b):¬(a≠b):=fun k=>k h
def ser0:Ser:=([],(0,(r0w,(([],([],[])),s0))))
end Go.Proofs.YtagnkfbpgkckiaaGreatDoor

namespace Go.Plim
set_option linter.unusedVariables false
def below (w:Int) (l:List Ev) (t:Int):List Ev:=l.filter fun e=>decide (e.1 / w<t / w)
structure EndsAt (l:List Ev) (t:Int):Prop where
 foll:Foll l
 le:∀e∈l,e.1≤t
 last:∃e∈l,e.1=t
theorem edvm {t a b:Int} (ha:1≤a) (hb:1≤b) (hm:b % a=0):t / a*a / b=t / b∧t / a / (b / a)=t / b:=by
 have e:a*(b / a)=b:=by have:=Int.mul_ediv_add_emod b a;omega
 have h1:t / a / (b / a)=t / b:=by rw[Int.ediv_ediv_of_nonneg (by omega),e]
 refine ⟨?_,h1⟩;rw[←h1]
 conv=>lhs;rw[←e,Int.mul_comm (t / a) a]
 exact Int.mul_ediv_mul_of_pos _ _ (by omega)
end Go.Plim
namespace Go.Proofs.YtagnkfbpgkckiaaGreatDoor
open Go.Flat Go.Plim
structure FInv (c:Conf) (s:Trs) (l:List Ev) (t:Int):Prop where
 ok:FoldOk c s
 i0:TierInv s.1 c.2.1.1 (below c.2.1.1 l t)
 i1:TierInv s.2.1 c.2.1.2.1 (below c.2.1.2.1 l t)
 i2:TierInv s.2.2 c.2.1.2.2 (below c.2.1.2.2 l t)
end Go.Proofs.YtagnkfbpgkckiaaGreatDoor
namespace Go.Proofs.YtagnkfbpgkckiaaGreatDoor
open Go.Flat Go.Plim
set_option linter.unusedVariables false
set_option linter.unusedSimpArgs false
theorem allE_up {w:Int}:∀(L:List Slo) (c:Cel) (lo:Int),Up L→(∀s∈L,FitsP s.2 w s.1∧lo≤s.1)→c0g c→(c=z0∨c.2.2.1.1 / w<lo)→(allE c (L.map (·.2))).2=0:=by
 intro L;induction L with
 | nil=>intro c lo _ _ _ _;rfl
 | cons s L ih =>
  intro c lo hu hs hc hl;unfold Up at hu;rw[List.pairwise_cons] at hu;obtain ⟨hf,h1⟩:=hs s (by simp);have ha:Ahead c s.2:=by
   rcases hl with h | h
   ·exact .inl h
   ·refine .inr (.inr ?_);have e:=hf.f;rcases Int.lt_or_le c.2.2.1.1 s.2.2.1.1 with q | q
    ·exact q
    ·have:=Int.ediv_le_ediv (c:=w) (by have:=hf.w0;omega) q;omega
  have em:mrgE c s.2=(mrg c s.2,0):=by unfold mrgE;rw[if_pos (And.intro hc hf.n.ok),if_pos ha]
  simp only[List.map_cons,allE];rw[em,if_pos rfl];refine ih _ (s.1+1) hu.2 (fun x hx=>⟨(hs x (by simp[hx])).1,by have:=hu.1 x hx;omega⟩) (s1d hc hf.n.ok ha) (.inr ?_);have el:(mrg c s.2).2.2.1.1=s.2.2.2.1.1:=by
   unfold mrg;by_cases k:c=z0
   ·rw[if_pos k]
   ·rw[if_neg k,if_neg hf.n.ne]
  rw[el,hf.l];omega
theorem j0o {l:List Slo} {w i k:Int} (h:TierOk l w) (h0:0≤i) (hik:i≤k):(j0p l i k).2=0:=by
 unfold j0p;rw[if_neg (by omega)];unfold within;refine allE_up (w:=w) _ z0 0 ((l1y h).filter _) (fun s hs => ?_) t0p (.inl rfl);have:=(s0z h (List.mem_filter.1 hs).1).1;exact ⟨this,this.i0.1⟩
noncomputable def now1 (c:Conf) (s:Ser):Cel×Int:=mrgE (j0p s.2.2.2.1.1 (s.2.1 / c.2.1.2.1*(c.2.1.2.1 / c.2.1.1)) (s.2.1 / c.2.1.1)).1 s.2.2.2.2.2
noncomputable def now2 (c:Conf) (s:Ser):Cel×Int :=
 if (now1 c s).2≠0 then (z0,(now1 c s).2) else mrgE (j0p s.2.2.2.1.2.1 (s.2.1 / c.2.1.2.2*(c.2.1.2.2 / c.2.1.2.1)) (s.2.1 / c.2.1.2.1)).1 (now1 c s).1
theorem e1p (l:List Slo) (i k:Int):CelW (j0p l i k).1 := .of (x0u l i k)
theorem k1b {c:Conf} {s:Ser} (h:SerOk c s) (hn:¬(s.2.1 = -1)):EndsP c s∧∃e,EvOk e∧e.1=s.2.1:=by
 rcases h.st with q | q
 ·exact absurd q.1 hn
 ·obtain ⟨e,he,h1⟩:=q.2.last;exact ⟨q.2,e,i2i h.raw he,h1⟩
theorem k1h {a b t:Int} (ha:1≤a∧a≤1099511627776) (hb:1≤b∧b≤1099511627776) (hm:b % a=0) (ht:0≤t∧t<35184372088832) :
  0≤t / b*(b / a)∧t / b*(b / a)≤t / a∧t / a<35184372088832∧0≤t / a:=by
 have h1:=(edvm (t:=t) ha.1 hb.1 hm).2;have h2:0≤t / b:=Int.ediv_nonneg ht.1 (by omega);have h3:0≤b / a:=Int.ediv_nonneg (by omega) (by omega);have h4:0≤t / a:=Int.ediv_nonneg ht.1 (by omega);have h5:t / a≤t:=Int.ediv_le_self _ ht.1;refine ⟨Int.mul_nonneg h2 h3,?_,by omega,h4⟩;have h6:1≤b / a:=by
  have e:a*(b / a)=b:=by have:=Int.mul_ediv_add_emod b a;omega
  rcases Int.lt_or_le 0 (b / a) with q | q
  ·omega
  ·have:b / a=0:=by omega
   rw[this] at e;omega
 rw[←h1];exact Int.ediv_mul_le _ (by omega)
structure At (c:Conf) (s:Ser):Prop where
 l0:0≤s.2.1
 l1:s.2.1<35184372088832
theorem u0p {c:Conf} {s:Ser} (h:SerOk c s) (hn:¬(s.2.1 = -1)):0≤s.2.1∧s.2.1<35184372088832:=by
 obtain ⟨_,e,he,h1⟩:=k1b h hn;rw[←h1];exact ⟨he.t0,he.t1⟩
theorem v0v {t:Int} (ht:0≤t∧t<35184372088832) {w:Int} (hw:1≤w):IntKind.wrap .i64 (Int.tdiv t w)=t / w:=by
 have:0≤t / w:=Int.ediv_nonneg ht.1 (by omega);have:t / w≤t:=Int.ediv_le_self _ ht.1;rw[w0j ht.1,w64 (by omega) (by omega)]
theorem nz {w:Int} (h:1≤w):¬(w=0):=by omega
theorem s1r (n:Nat) (c:Conf) (s:Ser):m0s (n+1) (c,s) 0=some (s.2.2.2.2.2,0):=by rw[q1w]
theorem mrgE_nn (a b:Cel):0≤(mrgE a b).2:=by
 unfold mrgE;split
 ·split<;>simp
 ·simp
theorem s1q (n:Nat) (c:Conf) {s:Ser} (h:SerOk c s) (hw:SerW s) (hn:¬(s.2.1 = -1)):m0s (n+19) (c,s) 1=some (now1 c s):=by
 have hr:=h.fold.cok.rng;have ht:=u0p h hn;obtain ⟨o1,o2,o3,o4⟩:=k1h hr.w0 hr.w1 h.fold.cok.m1 ht;rw[q1v];simp only[tfd,tfn,if_neg (nz hr.w0.1),if_neg (nz hr.w1.1),v0v ht hr.w0.1,v0v ht hr.w1.1,c2h hr.w1 hr.w0.1];rw[w64 (by omega) (by omega),s0w n h.fold.t0,s1r (n+17)];simp only[obs,j0o h.fold.t0 o1 o2,if_true,m0j (n+12) (e1p _ _ _) hw.opn.c];rfl
theorem now1_w (c:Conf) (s:Ser):CelW (now1 c s).1:=h2s _ _
theorem i2r (n:Nat) (c:Conf) {s:Ser} (h:SerOk c s) (hw:SerW s) (hn:¬(s.2.1 = -1)):m0s (n+20) (c,s) 2=some (now2 c s):=by
 have hr:=h.fold.cok.rng;have ht:=u0p h hn;obtain ⟨o1,o2,o3,o4⟩:=k1h hr.w1 hr.w2 h.fold.cok.m2 ht;rw[q1u];simp only[tfd,tfn,if_neg (nz hr.w1.1),if_neg (nz hr.w2.1),v0v ht hr.w1.1,v0v ht hr.w2.1,c2h hr.w2 hr.w1.1];rw[w64 (by omega) (by omega),s0w (n+1) h.fold.t1,s1q n c h hw hn];simp only[obs,j0o h.fold.t1 o1 o2,if_true,m0j (n+13) (e1p _ _ _) (now1_w c s)];unfold now2;by_cases k:(now1 c s).2=0
 ·rw[if_pos k,if_neg (nn k)]
 ·have:0≤(now1 c s).2:=mrgE_nn _ _;rw[if_neg k,if_pos k,if_pos (by omega)];rfl
noncomputable def e0w (ok:Prop) [Decidable ok] (i j last w:Int) (t:List Slo) (now:Cel×Int):Cel×Int :=
 if ok then (if i<0 then (z0,1) else if j<i then (z0,1) else if last = -1 then (z0,0) else if last / w<i then j0p t i j else if j≤last / w then j0p t i j else if now.2≠0 then (z0,now.2) else mrgE (j0p t i j).1 now.1) else (z0,2)
theorem now2_w (c:Conf) (s:Ser):CelW (now2 c s).1:=by
 unfold now2;split
 ·exact b1k
 ·exact h2s _ _
theorem d2i (n:Nat) (c:Conf) {s:Ser} (h:SerOk c s) (hw:SerW s) {i j:Int} (h0:¬i<0) (hij:¬j<i):q0v (n+21) (c,s) 0 i j=some (e0w (SerOk c s) i j s.2.1 c.2.1.1 s.2.2.2.1.1 (s.2.2.2.2.2,0)):=by
 rw[m1f];unfold e0w;rw[if_pos h,if_neg h0,if_neg hij];simp only[tfd,tfn];by_cases hn:s.2.1 = -1
 ·rw[if_pos hn,if_pos hn];rfl
 have hr:=h.fold.cok.rng;have ht:=u0p h hn;rw[if_neg hn,if_neg hn,if_neg (nz hr.w0.1),v0v ht hr.w0.1,s0w (n+2) h.fold.t0];simp only[obs,j0o h.fold.t0 (show 0≤i by omega) (show i≤j by omega),if_true];by_cases h2:s.2.1 / c.2.1.1<i
 ·rw[if_pos h2,if_pos h2]
 rw[if_neg h2,if_neg h2];by_cases h3:j≤s.2.1 / c.2.1.1
 ·rw[if_pos h3,if_pos h3]
 rw[if_neg h3,if_neg h3,s1r (n+19) c s];simp only[obs,m0j (n+14) (e1p _ _ _) hw.opn.c];rw[if_pos trivial,if_neg (nn rfl)]
theorem m1l (n:Nat) (c:Conf) {s:Ser} (hw:SerW s) (i j:Int):e0g (n+22) c s 0 i j=some (e0w (SerOk c s) i j s.2.1 c.2.1.1 s.2.2.2.1.1 (s.2.2.2.2.2,0)):=by
 rw[m0y,j0b (n+11) c hw];by_cases h:SerOk c s
 case neg=>unfold e0w;rw[if_neg h,if_neg h];rfl
 rw[if_pos h];simp only[obs,a1u,decide_true,Bool.not_true,tff,tfd,if_neg (show ¬((0:Int)<0) by omega),if_neg (show ¬((3:Int)≤0) by omega)];by_cases h1:i<0
 ·unfold e0w;rw[if_pos h1,if_pos h,if_pos h1];rfl
 by_cases h2:j<i
 ·unfold e0w;rw[if_neg h1,if_pos h2,if_pos h,if_neg h1,if_pos h2];rfl
 rw[if_neg h1,if_neg h2,d2i n c h hw h1 h2];rfl
theorem d2h (n:Nat) (c:Conf) {s:Ser} (h:SerOk c s) (hw:SerW s) {i j:Int} (h0:¬i<0) (hij:¬j<i):q0v (n+21) (c,s) 1 i j=some (e0w (SerOk c s) i j s.2.1 c.2.1.2.1 s.2.2.2.1.2.1 (now1 c s)):=by
 rw[m1e];unfold e0w;rw[if_pos h,if_neg h0,if_neg hij];simp only[tfd,tfn];by_cases hn:s.2.1 = -1
 ·rw[if_pos hn,if_pos hn];rfl
 have hr:=h.fold.cok.rng;have ht:=u0p h hn;rw[if_neg hn,if_neg hn,if_neg (nz hr.w1.1),v0v ht hr.w1.1,s0w (n+2) h.fold.t1];simp only[obs,j0o h.fold.t1 (show 0≤i by omega) (show i≤j by omega),if_true];by_cases h2:s.2.1 / c.2.1.2.1<i
 ·rw[if_pos h2,if_pos h2]
 rw[if_neg h2,if_neg h2];by_cases h3:j≤s.2.1 / c.2.1.2.1
 ·rw[if_pos h3,if_pos h3]
 rw[if_neg h3,if_neg h3,s1q (n+1) c h hw hn];simp only[obs,m0j (n+14) (e1p _ _ _) (now1_w c s)];by_cases h4:(now1 c s).2=0
 ·rw[if_pos h4,if_neg (nn h4)]
 ·rw[if_neg h4,if_pos h4];rfl
theorem m1k (n:Nat) (c:Conf) {s:Ser} (hw:SerW s) (i j:Int):e0g (n+22) c s 1 i j=some (e0w (SerOk c s) i j s.2.1 c.2.1.2.1 s.2.2.2.1.2.1 (now1 c s)):=by
 rw[m0y,j0b (n+11) c hw];by_cases h:SerOk c s
 case neg=>unfold e0w;rw[if_neg h,if_neg h];rfl
 rw[if_pos h];simp only[obs,a1u,decide_true,Bool.not_true,tff,tfd,if_neg (show ¬((1:Int)<0) by omega),if_neg (show ¬((3:Int)≤1) by omega)];by_cases h1:i<0
 ·unfold e0w;rw[if_pos h1,if_pos h,if_pos h1];rfl
 by_cases h2:j<i
 ·unfold e0w;rw[if_neg h1,if_pos h2,if_pos h,if_neg h1,if_pos h2];rfl
 rw[if_neg h1,if_neg h2,d2h n c h hw h1 h2];rfl
theorem d2g (n:Nat) (c:Conf) {s:Ser} (h:SerOk c s) (hw:SerW s) {i j:Int} (h0:¬i<0) (hij:¬j<i):q0v (n+21) (c,s) 2 i j=some (e0w (SerOk c s) i j s.2.1 c.2.1.2.2 s.2.2.2.1.2.2 (now2 c s)):=by
 rw[m1d];unfold e0w;rw[if_pos h,if_neg h0,if_neg hij];simp only[tfd,tfn];by_cases hn:s.2.1 = -1
 ·rw[if_pos hn,if_pos hn];rfl
 have hr:=h.fold.cok.rng;have ht:=u0p h hn;rw[if_neg hn,if_neg hn,if_neg (nz hr.w2.1),v0v ht hr.w2.1,s0w (n+2) h.fold.t2];simp only[obs,j0o h.fold.t2 (show 0≤i by omega) (show i≤j by omega),if_true];by_cases h2:s.2.1 / c.2.1.2.2<i
 ·rw[if_pos h2,if_pos h2]
 rw[if_neg h2,if_neg h2];by_cases h3:j≤s.2.1 / c.2.1.2.2
 ·rw[if_pos h3,if_pos h3]
 rw[if_neg h3,if_neg h3,i2r n c h hw hn];simp only[obs,m0j (n+14) (e1p _ _ _) (now2_w c s)];by_cases h4:(now2 c s).2=0
 ·rw[if_pos h4,if_neg (nn h4)]
 ·rw[if_neg h4,if_pos h4];rfl
theorem m1j (n:Nat) (c:Conf) {s:Ser} (hw:SerW s) (i j:Int):e0g (n+22) c s 2 i j=some (e0w (SerOk c s) i j s.2.1 c.2.1.2.2 s.2.2.2.1.2.2 (now2 c s)):=by
 rw[m0y,j0b (n+11) c hw];by_cases h:SerOk c s
 case neg=>unfold e0w;rw[if_neg h,if_neg h];rfl
 rw[if_pos h];simp only[obs,a1u,decide_true,Bool.not_true,tff,tfd,if_neg (show ¬((2:Int)<0) by omega),if_neg (show ¬((3:Int)≤2) by omega)];by_cases h1:i<0
 ·unfold e0w;rw[if_pos h1,if_pos h,if_pos h1];rfl
 by_cases h2:j<i
 ·unfold e0w;rw[if_neg h1,if_pos h2,if_pos h,if_neg h1,if_pos h2];rfl
 rw[if_neg h1,if_neg h2,d2g n c h hw h1 h2];rfl
theorem b2l (n f:Nat) (s:Trs):e0h n (f+1) (s,(3:Int),())=some (.inl ()):=by
 rw[j0d,show (decide ((3:Int)<3))=false from rfl,tff]
theorem b2m (n f:Nat) (s:Trs):e0h n (f+2) (s,(2:Int),())=some (if (40:Int)<s.2.2.length then .inr 0 else .inl ()):=by
 rw[j0d,show (decide ((2:Int)<3))=true from rfl,tft,show (decide ((2:Int)=0))=false from rfl,tff,show (decide ((2:Int)=1))=false from rfl,tff,show (decide ((2:Int)=2))=true from rfl,tft];rw[show IntKind.wrap .i64 ((2:Int)+1)=3 from rfl,b2l];simp only[tfd];split<;>rfl
theorem b2n (n f:Nat) (s:Trs):e0h n (f+3) (s,(1:Int),())=some (if (40:Int)<s.2.1.length∨(40:Int)<s.2.2.length then .inr 0 else .inl ()):=by
 rw[j0d,show (decide ((1:Int)<3))=true from rfl,tft,show (decide ((1:Int)=0))=false from rfl,tff,show (decide ((1:Int)=1))=true from rfl,tft];rw[show IntKind.wrap .i64 ((1:Int)+1)=2 from rfl,b2m];simp only[tfd];by_cases h:(40:Int)<s.2.1.length
 ·rw[if_pos h,if_pos (.inl h)]
 ·rw[if_neg h];by_cases h':(40:Int)<s.2.2.length
  ·rw[if_pos h',if_pos (.inr h')]
  ·rw[if_neg h',if_neg (fun k=>k.elim h h')]
theorem b2o (n f:Nat) (s:Trs):e0h n (f+4) (s,(0:Int),())=some (if (40:Int)<s.1.length∨(40:Int)<s.2.1.length∨(40:Int)<s.2.2.length then .inr 0 else .inl ()):=by
 rw[j0d,show (decide ((0:Int)<3))=true from rfl,tft,show (decide ((0:Int)=0))=true from rfl,tft];rw[show IntKind.wrap .i64 ((0:Int)+1)=1 from rfl,b2n];simp only[tfd];by_cases h:(40:Int)<s.1.length
 ·rw[if_pos h,if_pos (.inl h)]
 ·rw[if_neg h];by_cases h':(40:Int)<s.2.1.length∨(40:Int)<s.2.2.length
  ·rw[if_pos h',if_pos (.inr h')]
  ·rw[if_neg h',if_neg (fun k=>k.elim h h')]
def b1s (s:Trs):Prop:=s.1.length≤40∧s.2.1.length≤40∧s.2.2.length≤40
instance (s:Trs):Decidable (b1s s):=by unfold b1s;infer_instance
theorem i2l (n:Nat) (s:Trs):g1c (n+1) s=some (if b1s s then 1 else 0):=by
 rw[s1n,show a0b=(2^70-4)+4 from by decide,b2o];by_cases h:b1s s
 ·rw[if_pos h,if_neg (by unfold b1s at h;omega)];rfl
 ·rw[if_neg h,if_pos (by unfold b1s at h;omega)];rfl
structure SerL (s:Ser):Prop where
 l:s.1.length≤1000000
 r:s.2.2.1.2.2.length≤1000000
 a:s.2.2.2.1.1.length≤1000000
 b:s.2.2.2.1.2.1.length≤1000000
 d:s.2.2.2.1.2.2.length≤1000000
theorem b1y (n:Nat) (c:Conf) {s:Ser} (hw:SerW s):o0e (n+11) c s=some (if SerOk c s then 0 else 2):=by
 rw[f1c,j0b n c hw];by_cases h:SerOk c s
 ·rw[if_pos h,if_pos h];rfl
 ·rw[if_neg h,if_neg h];rfl
theorem g2a (n:Nat) (l:List Lab) (hL:l.length≤9223372036854775807):∀(rest pre:List Lab) (f:Nat) (ix len:Int),l=pre++rest→ix=pre.length→len=l.length→rest.length<f →
  k0x n f (l,len,ix,())=some (.inl ())∨k0x n f (l,len,ix,())=some (.inr 0):=by
 intro rest;induction rest with
 | nil =>
  intro pre f ix len hl hi hn hf;obtain ⟨f,rfl⟩:∃g,f=g+1:=⟨f-1,by simp at hf;omega⟩;left;rw[t0u];simp only[tfd,if_neg (idxe hl hi hn)]
 | cons x rest ih =>
  intro pre f ix len hl hi hn hf;obtain ⟨f,rfl⟩:∃g,f=g+1:=⟨f-1,by simp at hf;omega⟩;have hlen:=congrArg List.length hl;simp at hlen;rw[t0u];simp only[tfd,if_pos (idx hl hi hn),c0f hl hi,obs];rw[w64 (x:=ix+1) (by omega) (by omega)];by_cases h1:ix=40
  ·right;rw[if_pos h1]
  rw[if_neg h1];by_cases h2:(1000:Int)<x.1.length
  ·right;rw[if_pos h2]
  rw[if_neg h2];by_cases h3:(1000:Int)<x.2.length
  ·right;rw[if_pos h3]
  rw[if_neg h3];exact ih (pre++[x]) f (ix+1) len (idxl hl) (idxs hi) hn (by simp at hf;omega)
theorem i2n (n:Nat) (l:List Lab) (hL:l.length≤9223372036854775807):z0c (n+1) l=some 0∨z0c (n+1) l=some 1:=by
 rw[s1o];rcases g2a n l hL l [] a0b 0 _ rfl rfl rfl (by unfold a0b;omega) with h | h
 ·right;rw[h];rfl
 ·left;rw[h];rfl
theorem i2k (n:Nat) (s:Ser) (hL:s.1.length≤9223372036854775807):z0b (n+2) s=some 0∨z0b (n+2) s=some 1:=by
 rw[s1m];rcases i2n n s.1 hL with h | h
 ·left;rw[h];rfl
 ·rw[h];simp only[obs,tfd,if_neg (show ¬((1:Int)=0) by omega)];by_cases h1:(60:Int)<s.2.2.1.2.2.length
  ·left;rw[if_pos h1]
  rw[if_neg h1,i2l];simp only[obs];split
  ·right;rfl
  ·left;rfl
theorem ser_wf {s:Ser} (h:Wf a0n s):SerW s:=by
 obtain ⟨h1,h2,h3,h4,h5⟩:=h;refine ⟨h2,?_,trs_wf h4,slo_wf h5⟩;intro e he;exact ev_wf (h3.2.2.2 e he)
theorem x0i (n:Nat) (a b:List Lab) (hL:a.length≤9223372036854775807):∀(ra rb pa pb:List Lab) (f:Nat) (ix len:Int),a=pa++ra→b=pb++rb→pa.length=pb.length→ra.length=rb.length→ix=pa.length→len=a.length→ra.length<f →
  g0t n f (a,b,len,ix,())=some (if ra=rb then .inl () else .inr false):=by
 intro ra;induction ra with
 | nil =>
  intro rb pa pb f ix len ha hb hp hr hi hn hf;obtain ⟨f,rfl⟩:∃g,f=g+1:=⟨f-1,by simp at hf;omega⟩;have e:rb=[]:=List.length_eq_zero_iff.1 (by simpa using hr.symm);subst e;rw[l0o,decide_eq_false (idxe ha hi hn),tff,if_pos rfl]
 | cons x ra ih =>
  intro rb pa pb f ix len ha hb hp hr hi hn hf;obtain ⟨f,rfl⟩:∃g,f=g+1:=⟨f-1,by simp at hf;omega⟩;cases rb with
  | nil=>simp at hr
  | cons y rb =>
   have hlen:=congrArg List.length ha;simp at hlen;rw[l0o,decide_eq_true (idx ha hi hn),tft,c0f ha hi,c0f hb (by omega)];simp only[obs,labEq];rw[w64 (x:=ix+1) (by omega) (by omega)];by_cases h:x=y
   ·subst h;simp only[decide_true,Bool.not_true,tff];rw[ih rb (pa++[x]) (pb++[x]) f (ix+1) len (idxl ha) (idxl hb) (by simp;omega) (by simpa using hr) (idxs hi) hn (by simp at hf;omega)];simp
   ·rw[if_neg (by simp[h])];simp only[decide_eq_false h,Bool.not_false,tft]
theorem q0f (n:Nat) (a b:List Lab) (hL:a.length≤9223372036854775807):o0y (n+1) a b=some (decide (a=b)):=by
 rw[a1d];by_cases h:a.length=b.length
 ·rw[decide_eq_true (show ((a.length:Nat):Int)=(b.length:Nat) by omega)];simp only[Bool.not_true,tff];rw[x0i n a b hL a b [] [] a0b 0 _ rfl rfl rfl h rfl rfl (by unfold a0b;omega)];by_cases h':a=b
  ·rw[if_pos h',decide_eq_true h'];rfl
  ·rw[if_neg h',decide_eq_false h'];rfl
 ·rw[decide_eq_false (show ¬((a.length:Nat):Int)=(b.length:Nat) by omega),decide_eq_false (fun k:a=b=>h (by rw[k]))];rfl
theorem x0j (n:Nat) (a b:List Ev) (hL:a.length≤9223372036854775807):∀(ra rb pa pb:List Ev) (f:Nat) (ix len:Int),a=pa++ra→b=pb++rb→pa.length=pb.length→ra.length=rb.length→ix=pa.length→len=a.length→ra.length<f →
  g0u n f (a,b,len,ix,())=some (if ra=rb then .inl () else .inr false):=by
 intro ra;induction ra with
 | nil =>
  intro rb pa pb f ix len ha hb hp hr hi hn hf;obtain ⟨f,rfl⟩:∃g,f=g+1:=⟨f-1,by simp at hf;omega⟩;have e:rb=[]:=List.length_eq_zero_iff.1 (by simpa using hr.symm);subst e;rw[l0p,decide_eq_false (idxe ha hi hn),tff,if_pos rfl]
 | cons x ra ih =>
  intro rb pa pb f ix len ha hb hp hr hi hn hf;obtain ⟨f,rfl⟩:∃g,f=g+1:=⟨f-1,by simp at hf;omega⟩;cases rb with
  | nil=>simp at hr
  | cons y rb =>
   have hlen:=congrArg List.length ha;simp at hlen;rw[l0p,decide_eq_true (idx ha hi hn),tft,c0f ha hi,c0f hb (by omega)];simp only[obs,evEq];rw[w64 (x:=ix+1) (by omega) (by omega)];by_cases h:x=y
   ·subst h;simp only[decide_true,Bool.not_true,tff];rw[ih rb (pa++[x]) (pb++[x]) f (ix+1) len (idxl ha) (idxl hb) (by simp;omega) (by simpa using hr) (idxs hi) hn (by simp at hf;omega)];simp
   ·rw[if_neg (by simp[h])];simp only[decide_eq_false h,Bool.not_false,tft]
theorem b1e (n:Nat) (a b:List Ev) (hL:a.length≤9223372036854775807):o0z (n+1) a b=some (decide (a=b)):=by
 rw[a1e];by_cases h:a.length=b.length
 ·rw[decide_eq_true (show ((a.length:Nat):Int)=(b.length:Nat) by omega)];simp only[Bool.not_true,tff];rw[x0j n a b hL a b [] [] a0b 0 _ rfl rfl rfl h rfl rfl (by unfold a0b;omega)];by_cases h':a=b
  ·rw[if_pos h',decide_eq_true h'];rfl
  ·rw[if_neg h',decide_eq_false h'];rfl
 ·rw[decide_eq_false (show ¬((a.length:Nat):Int)=(b.length:Nat) by omega),decide_eq_false (fun k:a=b=>h (by rw[k]))];rfl
theorem z0j (n:Nat) (a b:List Slo) (hL:a.length≤9223372036854775807):∀(ra rb pa pb:List Slo) (f:Nat) (ix len:Int),a=pa++ra→b=pb++rb→pa.length=pb.length→ra.length=rb.length→ix=pa.length→len=a.length→ra.length<f →
  i0d n f (a,b,len,ix,())=some (if ra=rb then .inl () else .inr false):=by
 intro ra;induction ra with
 | nil =>
  intro rb pa pb f ix len ha hb hp hr hi hn hf;obtain ⟨f,rfl⟩:∃g,f=g+1:=⟨f-1,by simp at hf;omega⟩;have e:rb=[]:=List.length_eq_zero_iff.1 (by simpa using hr.symm);subst e;rw[m0v,decide_eq_false (idxe ha hi hn),tff,if_pos rfl]
 | cons x ra ih =>
  intro rb pa pb f ix len ha hb hp hr hi hn hf;obtain ⟨f,rfl⟩:∃g,f=g+1:=⟨f-1,by simp at hf;omega⟩;cases rb with
  | nil=>simp at hr
  | cons y rb =>
   have hlen:=congrArg List.length ha;simp at hlen;rw[m0v,decide_eq_true (idx ha hi hn),tft,c0f ha hi,c0f hb (by omega)];simp only[obs,sloEq];rw[w64 (x:=ix+1) (by omega) (by omega)];by_cases h:x=y
   ·subst h;simp only[decide_true,Bool.not_true,tff];rw[ih rb (pa++[x]) (pb++[x]) f (ix+1) len (idxl ha) (idxl hb) (by simp;omega) (by simpa using hr) (idxs hi) hn (by simp at hf;omega)];simp
   ·rw[if_neg (by simp[h])];simp only[decide_eq_false h,Bool.not_false,tft]
theorem l0f (n:Nat) (a b:List Slo) (hL:a.length≤9223372036854775807):i0z (n+1) a b=some (decide (a=b)):=by
 rw[c1y];by_cases h:a.length=b.length
 ·rw[decide_eq_true (show ((a.length:Nat):Int)=(b.length:Nat) by omega)];simp only[Bool.not_true,tff];rw[z0j n a b hL a b [] [] a0b 0 _ rfl rfl rfl h rfl rfl (by unfold a0b;omega)];by_cases h':a=b
  ·rw[if_pos h',decide_eq_true h'];rfl
  ·rw[if_neg h',decide_eq_false h'];rfl
 ·rw[decide_eq_false (show ¬((a.length:Nat):Int)=(b.length:Nat) by omega),decide_eq_false (fun k:a=b=>h (by rw[k]))];rfl
noncomputable instance decSer (a b:Ser):Decidable (a=b):=Classical.propDecidable _
structure SerM (s:Ser):Prop where
 l:s.1.length≤9223372036854775807
 r:s.2.2.1.2.2.length≤9223372036854775807
 a:s.2.2.2.1.1.length≤9223372036854775807
 b:s.2.2.2.1.2.1.length≤9223372036854775807
 d:s.2.2.2.1.2.2.length≤9223372036854775807
theorem w0l (n:Nat) (a b:Ser) (h:SerM a):d0t (n+3) a b=some (decide (a=b)):=by
 rw[i1a,z0a,v1x,q0f n _ _ h.l,b1e n _ _ h.r,l0f (n+1) _ _ h.a,l0f (n+1) _ _ h.b,l0f (n+1) _ _ h.d];obtain ⟨a1,a2,⟨r1,r2,r3⟩,⟨t1,t2,t3⟩,a5⟩:=a;obtain ⟨b1,b2,⟨q1,q2,q3⟩,⟨u1,u2,u3⟩,b5⟩:=b;simp only[obs,sloEq,tfd];by_cases h1:a1=b1
 case neg=>simp[h1]
 by_cases h2:a2=b2
 case neg=>simp[h1,h2]
 by_cases h3:r1=q1
 case neg=>simp[h1,h2,h3]
 by_cases h4:r2=q2
 case neg=>simp[h1,h2,h3,h4]
 by_cases h5:r3=q3
 case neg=>simp[h1,h2,h3,h4,h5]
 by_cases h6:t1=u1
 case neg=>simp[h1,h2,h3,h4,h5,h6]
 by_cases h7:t2=u2
 case neg=>simp[h1,h2,h3,h4,h5,h6,h7]
 by_cases h8:t3=u3
 case neg=>simp[h1,h2,h3,h4,h5,h6,h7,h8]
 by_cases h9:a5=b5
 case neg=>simp[h1,h2,h3,h4,h5,h6,h7,h8,h9]
 simp[h1,h2,h3,h4,h5,h6,h7,h8,h9]
def oldV (now w m:Int):Int×Int:=if OfP now w∧1≤m∧m≤4096 then (if 0<now / w+1-m then now / w+1-m else 0,0) else (0,1)
theorem p1w (n:Nat) (now w m:Int):f0o (n+4) now w m=some (oldV now w m):=by
 rw[p1z,wi_of n now w,p1x];unfold oldV;by_cases h:OfP now w
 case neg=>rw[if_neg h,if_neg (fun k=>h k.1)];rfl
 rw[if_pos h];have hq:=r1j h;simp only[obs,decide_true,Bool.not_true,tff];by_cases h1:1≤m
 case neg=>simp[h,h1]
 by_cases h2:m≤4096
 case neg=>simp[h,h1,h2]
 rw[w64 (x:=now / w+1) (by omega) (by omega),w64 (x:=now / w+1-m) (by omega) (by omega)];simp[h,h1,h2]
noncomputable def s1y (t now w m:Int):Bool:=decide (OfP t w∧(oldV now w m).2=0∧t / w<(oldV now w m).1)
theorem u1n (n:Nat) (t now w m:Int):e1i (n+5) t now w m=some (s1y t now w m):=by
 rw[a2z,wi_of (n+1) t w,p1w n now w m];unfold s1y;simp only[obs,tfd];by_cases h:OfP t w
 case neg=>rw[if_neg h,if_neg (by simp),decide_eq_false (fun k=>h k.1)]
 rw[if_pos h,if_pos rfl];by_cases h1:(oldV now w m).2=0
 ·rw[if_pos h1];exact congrArg some (decide_eq_decide.2 ⟨fun k=>⟨h,h1,k⟩,fun k=>k.2.2⟩)
 ·rw[if_neg h1,decide_eq_false (fun k=>h1 k.2.1)]
noncomputable def deadV (c:Conf) (last now:Int):Bool :=
 decide (OkC c)&&(s1y last now c.2.1.1 c.2.2.1.1&&(s1y last now c.2.1.2.1 c.2.2.1.2.1&&s1y last now c.2.1.2.2 c.2.2.1.2.2))
theorem v1q (n:Nat) (c:Conf) (last now:Int):w0m (n+6) c last now=some (deadV c last now):=by
 rw[i1b,b1g (n+2) c,u1n n,u1n n,u1n n];unfold deadV;by_cases h:OkC c
 case neg=>rw[if_neg h,decide_eq_false h];rfl
 rw[if_pos h,decide_eq_true h];simp only[obs,decide_true,tft,Bool.true_and];cases s1y last now c.2.1.1 c.2.2.1.1<;>cases s1y last now c.2.1.2.1 c.2.2.1.2.1<;>cases s1y last now c.2.1.2.2 c.2.2.1.2.2<;>rfl
abbrev Sta:=Conf×(Int×(Int×List Ser))
structure StaW (s:Sta):Prop where
 len:s.2.2.2.length≤9223372036854775807
 ser:∀x∈s.2.2.2,SerW x∧SerM x
def Whole (s:Sta):Prop:=OkC s.1∧(s.2.2.2.length:Int)=s.1.2.2.2.1
noncomputable instance (s):Decidable (Whole s):=Classical.propDecidable _
def LvX (s:Sta) (x:Ser):Prop:=x≠ser0∧(s.2.2.1 = -1∨deadV s.1 x.2.1 s.2.2.1=false)
noncomputable instance (s x):Decidable (LvX s x):=Classical.propDecidable _
def d1k (t:Int):Prop:=0≤t∧t<35184372088832
instance (t):Decidable (d1k t):=by unfold d1k;infer_instance
def Clock (s:Sta):Prop:=d1k s.2.1∧(s.2.2.1 = -1∨d1k s.2.2.1)∧s.2.2.1≤s.2.1
instance (s):Decidable (Clock s):=by unfold Clock;infer_instance
def mk (s:Sta):Int:=s.2.1 / s.1.2.1.1*s.1.2.1.1
def Twin (s:Sta) (i:Nat) (x:Ser):Prop:=LvX s x∧∃k,k<i∧∃y,s.2.2.2[k]? = some y∧LvX s y∧y.1=x.1
noncomputable instance (s i x):Decidable (Twin s i x):=Classical.propDecidable _
def s0n (s:Sta) (i:Nat) (x:Ser):Prop:=x=ser0∨(SerOk s.1 x∧0≤x.2.1∧x.2.1<mk s+s.1.2.1.1∧¬Twin s i x)
noncomputable instance (s i x):Decidable (s0n s i x):=Classical.propDecidable _
structure StaOk (s:Sta):Prop where
 whole:Whole s
 clock:Clock s
 right:∀(i:Nat) x,s.2.2.2[i]? = some x→s0n s i x
noncomputable instance (s):Decidable (StaOk s):=Classical.propDecidable _
theorem Whole.len {s:Sta} (h:Whole s):s.2.2.2.length≤65536:=by
 have:=h.1.rng.cap;have:=h.2;omega
theorem b1o {α:Type} {l:List α} {i:Nat} {x:α} (h:l[i]? = some x):at? l (i:Int)=some x:=by
 unfold at?;rw[decide_eq_true (show (0:Int)≤(i:Int) by omega),Int.toNat_natCast];exact h
theorem StaW.at {s:Sta} (h:StaW s) {i:Nat} {x:Ser} (hx:s.2.2.2[i]? = some x):SerW x∧SerM x:=h.ser x (List.mem_of_getElem? hx)
theorem ser0_m:SerM ser0:=⟨by simp[ser0],by simp[ser0,r0w],by simp[ser0],by simp[ser0],by simp[ser0]⟩
theorem y1q (n:Nat) {x:Ser} (h:SerM x):x0y (n+4) x=some (decide (x=ser0)):=by
 have:=w0l n x ser0 h;rw[q1s];have e:d0t (n+3) x ([],((0:Int),(((0:Int),((0:Int),[])),(([],([],[])),((0:Int),z0)))))=some (decide (x=ser0)):=this
 change a0a (d0t (n+3) x ([],((0:Int),(((0:Int),((0:Int),[])),(([],([],[])),((0:Int),z0)))))) _=_
 rw[e];rfl
theorem d1p (n:Nat) {s:Sta} {i:Nat} {x:Ser} (hx:s.2.2.2[i]? = some x) (hm:SerM x):f0w (n+7) s (i:Int)=some (decide (LvX s x)):=by
 rw[a1b,b1o hx,obs,y1q (n+2) hm,obs,tfn,tfd,v1q n];by_cases h:x=ser0
 ·rw[if_pos h,decide_eq_false (fun k:LvX s x=>k.1 h)]
 rw[if_neg h,tfd];by_cases h1:s.2.2.1 = -1
 ·rw[if_pos h1,decide_eq_true (show LvX s x from ⟨h,.inl h1⟩)]
 ·rw[if_neg h1];cases hd:deadV s.1 x.2.1 s.2.2.1
  ·rw[decide_eq_true (show LvX s x from ⟨h,.inr hd⟩)];rfl
  ·rw[decide_eq_false (fun k:LvX s x=>by rcases k.2 with k | k;exact h1 k;rw[hd] at k;cases k)];rfl
theorem place_l (n:Nat) (is:(Int×Unit)→Option Bool) (p:Nat→Bool) (L:Nat) (hL:L≤1000000) (his:∀k:Nat,k<L→is ((k:Int),())=some (p k)):∀(d k f:Nat),k+d=L→d<f →
  (∃m:Nat,k≤m∧m<L∧p m=true∧(∀j,k≤j→j<m→p j=false)∧d0a n f (is,(L:Int),(k:Int),())=some (.inr (m:Int))) ∨
  ((∀j,k≤j→j<L→p j=false)∧d0a n f (is,(L:Int),(k:Int),())=some (.inl ())):=by
 intro d;induction d with
 | zero =>
  intro k f hk hf;obtain ⟨f,rfl⟩:∃g,f=g+1:=⟨f-1,by omega⟩;refine .inr ⟨fun j h1 h2=>by omega,?_⟩;rw[l0l,decide_eq_false (by omega),tff]
 | succ d ih =>
  intro k f hk hf;obtain ⟨f,rfl⟩:∃g,f=g+1:=⟨f-1,by omega⟩;rw[l0l,decide_eq_true (by omega),tft,his k (by omega),obs];cases hp:p k
  ·rw[tff,w64 (by omega) (by omega),show ((k:Int)+1)=((k+1:Nat):Int) by omega];rcases ih (k+1) f (by omega) (by omega) with ⟨m,h1,h2,h3,h4,h5⟩ | ⟨h1,h2⟩
   ·exact .inl ⟨m,by omega,h2,h3,fun j q1 q2=>by
     rcases Nat.lt_or_ge k j with q | q
     ·exact h4 j (by omega) q2
     ·rw[show j=k by omega];exact hp,h5⟩
   ·exact .inr ⟨fun j q1 q2=>by
     rcases Nat.lt_or_ge k j with q | q
     ·exact h1 j (by omega) q2
     ·rw[show j=k by omega];exact hp,h2⟩
  ·rw[tft];exact .inl ⟨k,Nat.le_refl _,by omega,hp,fun j q1 q2=>by omega,rfl⟩
theorem g1i (n:Nat) (s:Sta) (is:(Int×Unit)→Option Bool) (p:Nat→Bool) (hL:s.2.2.2.length≤1000000) (his:∀k:Nat,k<s.2.2.2.length→is ((k:Int),())=some (p k)) :
  (∃m:Nat,m<s.2.2.2.length∧p m=true∧(∀j,j<m→p j=false)∧f0v (n+1) s is=some (m:Int)) ∨
  ((∀j,j<s.2.2.2.length→p j=false)∧f0v (n+1) s is=some (-1)):=by
 rw[a1a];rcases place_l n is p _ hL his s.2.2.2.length 0 a0b (by omega) (by unfold a0b;omega) with ⟨m,h1,h2,h3,h4,h5⟩ | ⟨h1,h2⟩
 ·refine .inl ⟨m,h2,h3,fun j q=>h4 j (by omega) q,?_⟩;have h5':d0a n a0b (is,(s.2.2.2.length:Int),(0:Int),())=some (.inr (m:Int)):=h5;rw[h5'];rfl
 ·refine .inr ⟨fun j q=>h1 j (by omega) q,?_⟩;have h2':d0a n a0b (is,(s.2.2.2.length:Int),(0:Int),())=some (.inl ()):=h2;rw[h2'];rfl
theorem k1n (n:Nat) (a b:List Lab) (h:a.length≤9223372036854775807):p0x (n+2) a b=some (decide (a=b)):=by
 rw[z0a,q0f n a b h];rfl
def IsTw (s:Sta) (i k:Nat) (x:Ser):Prop:=k=i∨∃y,s.2.2.2[k]? = some y∧LvX s y∧y.1=x.1
noncomputable instance (s i k x):Decidable (IsTw s i k x):=Classical.propDecidable _
theorem st_twin (n:Nat) {s:Sta} (hw:StaW s) (hL:s.2.2.2.length≤1000000) {i:Nat} {x:Ser} (hx:s.2.2.2[i]? = some x):q0t (n+9) s (i:Int)=some (decide (Twin s i x)):=by
 have hil:i<s.2.2.2.length:=(List.getElem?_eq_some_iff.1 hx).1;have hm:=(hw.at hx).2;rw[c1w];have his:∀k:Nat,k<s.2.2.2.length→(fun y0:Int×Unit=>g0h (n+8) y0.1 (i:Int) s) ((k:Int),())=some (decide (IsTw s i k x)):=by
  intro k hk;have hy:s.2.2.2[k]? = some s.2.2.2[k]:=List.getElem?_eq_getElem hk;generalize s.2.2.2[k]=y at hy;have hmy:=(hw.at hy).2;show g0h (n+8) (k:Int) (i:Int) s=_;rw[x0w,tfd,d1p n hy hmy,obs,b1o hy,obs,b1o hx,obs,k1n (n+5) _ _ hmy.l,obs,tfd];by_cases h1:k=i
  ·rw[if_pos (by rw[h1]),decide_eq_true (show IsTw s i k x from .inl h1)]
  rw[if_neg (by omega)];by_cases h2:LvX s y
  ·rw[if_pos h2];refine congrArg some (decide_eq_decide.2 ⟨fun h3 => .inr ⟨y,hy,h2,h3⟩,fun h3 => ?_⟩);rcases h3 with h3 | ⟨z,z1,z2,z3⟩
   ·exact absurd h3 h1
   ·rw[hy] at z1;cases z1;exact z3
  ·rw[if_neg h2,decide_eq_false];rintro (h3 | ⟨z,z1,z2,z3⟩)
   ·exact h1 h3
   ·rw[hy] at z1;cases z1;exact h2 z2
 rcases g1i (n+7) s (fun y0:Int×Unit=>g0h (n+8) y0.1 (i:Int) s) (fun k=>decide (IsTw s i k x)) hL his with ⟨m,h1,h2,h3,h4⟩ | ⟨h1,h2⟩
 ·rw[h4,obs,tfd,d1p (n+1) hx hm];have h2:=of_decide_eq_true h2;have hmi:m≤i:=by
   rcases Nat.lt_or_ge i m with q | q
   ·have:=of_decide_eq_false (h3 i q);exact absurd (.inl rfl) this
   ·exact q
  by_cases q:m<i
  ·rw[if_pos (by omega),obs];refine congrArg some (decide_eq_decide.2 ⟨fun k=>⟨k,m,q,?_⟩,fun k=>k.1⟩);exact h2.resolve_left (by omega)
  ·rw[if_neg (by omega),decide_eq_false];rintro ⟨k1,k,k2,k3⟩;exact of_decide_eq_false (h3 k (by omega)) (.inr k3)
 ·exact absurd (.inl rfl) (of_decide_eq_false (h1 i hil))
theorem n1p {s:Sta} (h:d1k s.2.1) (hw:1≤s.1.2.1.1∧s.1.2.1.1≤1099511627776):0≤mk s∧mk s≤s.2.1∧s.2.1<mk s+s.1.2.1.1∧s.2.1-s.2.1 % s.1.2.1.1=mk s:=by
 have e:=Int.mul_ediv_add_emod s.2.1 s.1.2.1.1;have e1:=Int.emod_nonneg s.2.1 (show s.1.2.1.1≠0 by omega);have e2:=Int.emod_lt_of_pos s.2.1 (show 0<s.1.2.1.1 by omega);rw[Int.mul_comm] at e;have e3:0≤mk s:=Int.mul_nonneg (Int.ediv_nonneg h.1 (by omega)) (by omega);unfold mk at *
 exact ⟨e3,by omega,by omega,by omega⟩
theorem st_mark (n:Nat) {s:Sta} (h:d1k s.2.1) (hw:1≤s.1.2.1.1∧s.1.2.1.1≤1099511627776):q0u (n+1) s=some (mk s):=by
 have:=n1p h hw;have:=h.1;have:=h.2;rw[c1x,tfd,if_neg (by omega),s0t h.1,w64 (by omega) (by omega),(n1p h hw).2.2.2]
theorem st_right (n:Nat) {s:Sta} (hw:StaW s) (hh:Whole s) (ht:d1k s.2.1) {i:Nat} {x:Ser} (hx:s.2.2.2[i]? = some x):o0u (n+12) s (i:Int)=some (decide (s0n s i x)):=by
 have hm:=hw.at hx;have hr:=hh.1.rng;have hL:=hh.len;have hmk:=n1p ht hr.w0;have ht1:=ht.1;have ht2:=ht.2;have hw0:=hr.w0;obtain ⟨m1,m2,m3,m4⟩:=hmk;rw[z0z,b1o hx,obs,y1q (n+7) hm.2,obs,tfd,b1y n s.1 hm.1,obs,st_mark (n+10) ht hr.w0,obs,w64 (by omega) (by omega),st_twin (n+2) hw (by omega) hx,obs];simp only[tfd];by_cases h0:x=ser0
 ·rw[if_pos h0,decide_eq_true (show s0n s i x from .inl h0)]
 rw[if_neg h0];by_cases h1:SerOk s.1 x
 case neg=>rw[if_neg h1,if_neg (by decide),decide_eq_false (fun q:s0n s i x=>by rcases q with k | k;exact h0 k;exact h1 k.1)]
 rw[if_pos h1,if_pos rfl];by_cases h2:0≤x.2.1
 case neg=>rw[if_neg h2,decide_eq_false (fun q:s0n s i x=>by rcases q with k | k;exact h0 k;exact h2 k.2.1)]
 rw[if_pos h2];by_cases h3:x.2.1<mk s+s.1.2.1.1
 case neg=>rw[if_neg h3,decide_eq_false (fun q:s0n s i x=>by rcases q with k | k;exact h0 k;exact h3 k.2.2.1)]
 rw[if_pos h3];by_cases h4:Twin s i x
 ·rw[decide_eq_true h4,decide_eq_false (fun q:s0n s i x=>by rcases q with k | k;exact h0 k;exact k.2.2.2 h4)];rfl
 ·rw[decide_eq_false h4,decide_eq_true (show s0n s i x from .inr ⟨h1,h2,h3,h4⟩)];rfl
def sta0:Sta:=(((0:Int),(((0:Int),((0:Int),(0:Int))),(((0:Int),((0:Int),(0:Int))),((0:Int),(0:Int))))),((0:Int),((0:Int),[])))
theorem v1h (n:Nat) (s:Sta):x0x (n+4) s=some (if Whole s then (s,0) else (sta0,2)):=by
 rw[v1d,b1g n s.1,obs,tfn,tfd,tfn,tfd];by_cases h:OkC s.1
 case neg=>rw[if_neg h,if_neg (show ¬((2:Int)=0) by decide),if_neg (fun k:Whole s=>h k.1)];rfl
 rw[if_pos h,if_pos rfl];by_cases h1:(s.2.2.2.length:Int)=s.1.2.2.2.1
 ·rw[if_pos h1,if_pos (show Whole s from ⟨h,h1⟩)]
 ·rw[if_neg h1,if_neg (fun k:Whole s=>h1 k.2)];rfl
theorem f2y (n:Nat) (t:Int):d1n (n+1) t=some (decide (d1k t)):=by
 rw[v1c,tfd];by_cases h:0≤t
 ·rw[if_pos h];exact congrArg some (decide_eq_decide.2 ⟨fun k=>⟨h,k⟩,fun k=>k.2⟩)
 ·rw[if_neg h,decide_eq_false (fun k:d1k t=>h k.1)]
theorem st_clock (n:Nat) (s:Sta):o0v (n+2) s=some (decide (Clock s)):=by
 rw[a1c,f2y n,f2y n,obs,obs];simp only[tfd];by_cases h:d1k s.2.1
 case neg=>rw[if_neg h,decide_eq_false (fun k:Clock s=>h k.1)]
 rw[if_pos h];by_cases h1:s.2.2.1 = -1
 ·rw[if_pos h1];exact congrArg some (decide_eq_decide.2 ⟨fun k=>⟨h,.inl h1,k⟩,fun k=>k.2.2⟩)
 rw[if_neg h1];by_cases h2:d1k s.2.2.1
 ·rw[if_pos h2];exact congrArg some (decide_eq_decide.2 ⟨fun k=>⟨h,.inr h2,k⟩,fun k=>k.2.2⟩)
 ·rw[if_neg h2,decide_eq_false (fun k:Clock s=>by rcases k.2.1 with q | q;exact h1 q;exact h2 q)]
def Wrong (s:Sta) (k:Nat):Prop:=∃x,s.2.2.2[k]? = some x∧¬s0n s k x
noncomputable instance (s k):Decidable (Wrong s k):=Classical.propDecidable _
theorem k0o (n:Nat) {s:Sta} (hw:StaW s):h0x (n+14) s=some (if StaOk s then 0 else 2):=by
 rw[q1t,v1h (n+9) s,obs,tfn,tfd];by_cases h:Whole s
 case neg=>rw[if_neg h,if_neg (show ¬((sta0,(2:Int)).2=0) by decide),if_neg (fun k:StaOk s=>h k.whole)]
 rw[if_pos h,if_pos rfl,st_clock (n+11) s,obs,tfn,tfd];by_cases h1:Clock s
 case neg=>rw[if_neg h1,if_neg (fun k:StaOk s=>h1 k.clock)]
 rw[if_pos h1];have hL:=h.len;have his:∀k:Nat,k<s.2.2.2.length→(fun y2:Int×Unit=>f0h (n+13) y2.1 s) ((k:Int),())=some (decide (Wrong s k)):=by
  intro k hk;have hy:s.2.2.2[k]? = some s.2.2.2[k]:=List.getElem?_eq_getElem hk;generalize s.2.2.2[k]=y at hy;show f0h (n+13) (k:Int) s=_;rw[h1w,st_right n hw h h1.1 hy,obs];by_cases q:s0n s k y
  ·rw[decide_eq_true q,decide_eq_false (fun z:Wrong s k=>by obtain ⟨x,x1,x2⟩:=z;rw[hy] at x1;cases x1;exact x2 q)];rfl
  ·rw[decide_eq_false q,decide_eq_true (show Wrong s k from ⟨y,hy,q⟩)];rfl
 rcases g1i (n+12) s (fun y2:Int×Unit=>f0h (n+13) y2.1 s) (fun k=>decide (Wrong s k)) (by omega) his with ⟨m,q1,q2,q3,q4⟩ | ⟨q1,q2⟩
 ·rw[show (fun y2:Int×Unit=>f0h (n+13) y2.1 (s,(0:Int)).1)=fun y2:Int×Unit=>f0h (n+13) y2.1 s from rfl];obtain ⟨x,x1,x2⟩:=of_decide_eq_true q2;rw[q4,obs,tfd,if_pos (by omega),if_neg (fun k:StaOk s=>x2 (k.right m x x1))]
 ·rw[show (fun y2:Int×Unit=>f0h (n+13) y2.1 (s,(0:Int)).1)=fun y2:Int×Unit=>f0h (n+13) y2.1 s from rfl];rw[q2,obs,tfd,if_neg (by decide),if_pos];refine ⟨h,h1,fun i x hx => ?_⟩;have:=of_decide_eq_false (q1 i (List.getElem?_eq_some_iff.1 hx).1);exact Decidable.byContradiction fun k=>this ⟨x,hx,k⟩
def cutB {α:Type} (m:Nat) (f:α→List UInt8) (l:List α):List (List UInt8):=(d0p l.length m l).map fun p=>padB (p.flatMap f) 512
theorem o1x {α:Type} {m:Nat} {f:α→List UInt8} {l:List α}:(cutB m f l).length=(d0p l.length m l).length:=by simp[cutB]
theorem u0x {α:Type} {m:Nat} (hm:1≤m) (xs:List α):(d0p xs.length m xs).length≤xs.length:=by
 apply Nat.le_of_not_lt;intro h;have:=(m0i hm xs xs.length).1 h;have:xs.length*1≤xs.length*m:=Nat.mul_le_mul_left _ hm;omega
theorem g1t {α:Type} {m:Nat} (hm:1≤m) {xs:List α} {p:List α} (h:p∈d0p xs.length m xs):p.length≤m∧∀x∈p,x∈xs:=by
 obtain ⟨k,hk⟩:=List.getElem?_of_mem h;rw[i0j hm _ _ (Nat.le_refl _)] at hk;split at hk
 ·injection hk with hk;subst hk;exact ⟨by rw[List.length_take];omega,fun x hx=>List.mem_of_mem_drop (List.mem_of_mem_take hx)⟩
 ·cases hk
theorem e1b {α:Type} {w:Nat} {f:α→List UInt8}:∀l:List α,(∀x∈l,(f x).length=w)→(l.flatMap f).length=l.length*w
 | [],_=>by simp
 | x::l,h=>by
  rw[List.flatMap_cons,List.length_append,h x List.mem_cons_self,e1b l fun y hy=>h y (List.mem_cons_of_mem _ hy),List.length_cons,Nat.add_mul];omega
theorem t1e {α:Type} {w:Nat} {f:α→List UInt8}:∀(k:Nat) (l:List α),(∀x∈l,(f x).length=w)→(l.flatMap f).drop (k*w)=(l.drop k).flatMap f
 | 0,l,_=>by simp
 | k+1,[],_=>by simp
 | k+1,x::l,h=>by
  have hx:=h x List.mem_cons_self;rw[List.flatMap_cons,List.drop_succ_cons,←t1e k l fun y hy=>h y (List.mem_cons_of_mem _ hy),show (k+1)*w=(f x).length+k*w by rw[hx,Nat.add_mul];omega,List.drop_append,List.drop_eq_nil_of_le (by omega),List.nil_append,show (f x).length+k*w-(f x).length=k*w by omega]
theorem g1s {α:Type} (xs:List α) (m:Nat) (hm:1≤m) (hx:xs.length+m≤1000000000):i0q xs (m:Int)=some ((d0p xs.length m xs).map fun l=>(l,())):=by
 unfold i0q;rw[show (decide (1≤(m:Int))&&decide ((xs.length:Int)+(m:Int)≤4611686018427387904))=true by rw[Bool.and_eq_true,decide_eq_true_eq,decide_eq_true_eq];omega,tft,Int.toNat_natCast]
theorem t0l (n:Nat) (s:List UInt8) (k:Nat) (hs:s.length≤1000000000) (hk:k≤8000):g0k (n+5) s (k:Int)=some (padB s k):=by
 rw[s1v,w64 (by omega) (by omega)];have e:(if (k:Int)-((s.length:Nat):Int)<0 then (0:Int) else (k:Int)-((s.length:Nat):Int))=((k-s.length:Nat):Int):=by split<;>omega
 rw[e,rep_val n (k-s.length) (by omega),obs,tfd,if_pos (by simp;omega)];rfl
theorem j2p (n:Nat) (e:Ev):r0v (n+6) e=some (i0c e):=by
 have hl:=p0r e;rw[i1w,e1z (n+2) [] e (by simp),obs,f1s (n+4),obs,List.nil_append];dsimp only;rw[show ((32:Int))=((32:Nat):Int) from rfl,t0l n _ 32 (by rw[g0q];omega) (by omega),obs];rfl
theorem y1r (n:Nat) (s:Slo):j0y (n+6) s=some (c0o s):=by
 have e1:=p0r s.2.2.1;have e2:=p0r s.2.2.2.1;have hl:=y1s s;have h1:∀x y:Int,[x,y].flatMap n8I=n8I x++n8I y:=fun x y=>by simp
 have h5:∀a b x y z:Int,[IntKind.wrap .i64 a,IntKind.wrap .i64 b,x,y,z].flatMap n8I=n8I a++(n8I b++(n8I x++(n8I y++n8I z))):=fun a b x y z=>by simp[h2q]
 have l1:∀x y:Int,(n8I x++n8I y).length=16:=fun x y=>by simp[w0p]
 rw[o1f,y0u (n+3) [] _ (by simp) (by simp),obs,h1,List.nil_append,e1z (n+2) _ _ (by rw[l1];omega),obs,e1z (n+2) _ _ (by rw[List.length_append,l1];omega),obs,
  y0u (n+3) _ _ (by simp) (by rw[List.length_append,List.length_append,l1,e1,e2];simp),obs,h5,f1s (n+4),obs]
 dsimp only;have es:n8I s.1++n8I s.2.1++v0p s.2.2.1++v0p s.2.2.2.1++(n8I s.2.2.2.2.1.1++(n8I s.2.2.2.2.1.2++(n8I s.2.2.2.2.2.1++(n8I s.2.2.2.2.2.2.1++n8I s.2.2.2.2.2.2.2))))=sloI s:=by
  unfold sloI;simp only[List.append_assoc]
 rw[es,show ((128:Int))=((128:Nat):Int) from rfl,t0l n _ 128 (by rw[g0q];omega) (by omega),obs];rfl
theorem x1x (n:Nat) (g:Ev→List UInt8) (bytes:(Ev×Unit)→Option (List UInt8)) (hb:∀x,bytes (x,())=some (g x)) (hg:∀x,(g x).length≤512) (out:List (List UInt8)) (l:List Ev) (hl:l.length≤100000):∀(rest pre:List Ev) (f:Nat) (b:List UInt8) (i:Int),l=pre++rest→i=pre.length→b.length+512*rest.length≤1000000000 →
  g0d (n+1) (f+rest.length+1) (out,bytes,b,l,(l.length:Int),i,())=some (.inl (out,bytes,b++rest.flatMap g,())):=by
 intro rest;induction rest with
 | nil =>
  intro pre f b i h hi hw;rw[l0a];simp only[tfd,if_neg (idxe h hi rfl)];simp
 | cons a rest ih =>
  intro pre f b i h hi hw;have hlen:=congrArg List.length h;simp at hlen hw;have ha:=hg a;rw[show f+(a::rest).length+1=(f+rest.length+1)+1 by simp;omega,l0a];simp only[tfd,if_pos (idx h hi rfl)];rw[c0f h hi,obs,hb,obs,wst n b (g a) (by omega),obs];dsimp only;rw[w64 (x:=i+1) (by omega) (by omega),ih (pre++[a]) f _ (i+1) (idxl h) (idxs hi) (by simp;omega)];simp
theorem x1w (n:Nat) (g:Ev→List UInt8) (bytes:(Ev×Unit)→Option (List UInt8)) (hb:∀x,bytes (x,())=some (g x)) (hg:∀x,(g x).length≤512):∀(P:List (List Ev)) (out:List (List UInt8)),(∀p∈P,p.length≤1000)→out.length+P.length≤1000000 →
  e0k (n+5) (P.map fun p=>(p,())) (out,bytes,())=some (out++P.map (fun p=>padB (p.flatMap g) 512),bytes,()):=by
 intro P;induction P with
 | nil=>intro out _ _;rw[List.map_nil,s0q];simp
 | cons p P ih =>
  intro out hp ho;simp only[List.length_cons] at ho;have h1:=hp p List.mem_cons_self;have:=x1x (n+4) g bytes hb hg out p (by omega) p [] (a0b-p.length-1) [] 0 rfl rfl (by simp;omega);rw[←lfu (by omega)] at this;have hfl:(p.flatMap g).length≤1000000:=by
   have key:∀q:List Ev,(q.flatMap g).length≤512*q.length:=by
    intro q;induction q with
    | nil=>simp
    | cons x q ih=>have:=hg x;rw[List.flatMap_cons,List.length_append,List.length_cons];omega
   have:=key p;omega
  rw[List.map_cons,r0u];dsimp only;rw[this,obs,a0y];dsimp only;rw[c0h,obs,List.nil_append];dsimp only;rw[show ((512:Int))=((512:Nat):Int) from rfl,t0l n _ 512 (by omega) (by omega),obs,tfd,if_pos (by omega),obs,ih (out++[padB (p.flatMap g) 512]) (fun q hq=>hp q (List.mem_cons_of_mem _ hq)) (by simp;omega)];simp
theorem t1m (n:Nat) (g:Ev→List UInt8) (bytes:(Ev×Unit)→Option (List UInt8)) (hb:∀x,bytes (x,())=some (g x)) (hg:∀x,(g x).length≤512) (out:List (List UInt8)) (l:List Ev) (m:Nat) (hm:1≤m) (hm':m≤1000) (hl:l.length≤100000) (ho:out.length≤100000) :
  n0o (n+6) out l (m:Int) bytes=some (out++cutB m g l):=by
 have hc:=u0x hm l;rw[z0g,a1f,g1s l m hm (by omega),obs,x1w n g bytes hb hg _ out (fun p hp=>by have:=(g1t hm hp).1;omega) (by omega),obs];rfl
theorem e2g (n:Nat) (g:Slo→List UInt8) (bytes:(Slo×Unit)→Option (List UInt8)) (hb:∀x,bytes (x,())=some (g x)) (hg:∀x,(g x).length≤512) (out:List (List UInt8)) (l:List Slo) (hl:l.length≤100000):∀(rest pre:List Slo) (f:Nat) (b:List UInt8) (i:Int),l=pre++rest→i=pre.length→b.length+512*rest.length≤1000000000 →
  g0y (n+1) (f+rest.length+1) (out,bytes,b,l,(l.length:Int),i,())=some (.inl (out,bytes,b++rest.flatMap g,())):=by
 intro rest;induction rest with
 | nil =>
  intro pre f b i h hi hw;rw[l0r];simp only[tfd,if_neg (idxe h hi rfl)];simp
 | cons a rest ih =>
  intro pre f b i h hi hw;have hlen:=congrArg List.length h;simp at hlen hw;have ha:=hg a;rw[show f+(a::rest).length+1=(f+rest.length+1)+1 by simp;omega,l0r];simp only[tfd,if_pos (idx h hi rfl)];rw[c0f h hi,obs,hb,obs,wst n b (g a) (by omega),obs];dsimp only;rw[w64 (x:=i+1) (by omega) (by omega),ih (pre++[a]) f _ (i+1) (idxl h) (idxs hi) (by simp;omega)];simp
theorem e2f (n:Nat) (g:Slo→List UInt8) (bytes:(Slo×Unit)→Option (List UInt8)) (hb:∀x,bytes (x,())=some (g x)) (hg:∀x,(g x).length≤512):∀(P:List (List Slo)) (out:List (List UInt8)),(∀p∈P,p.length≤1000)→out.length+P.length≤1000000 →
  e0y (n+5) (P.map fun p=>(p,())) (out,bytes,())=some (out++P.map (fun p=>padB (p.flatMap g) 512),bytes,()):=by
 intro P;induction P with
 | nil=>intro out _ _;rw[List.map_nil,t0w];simp
 | cons p P ih =>
  intro out hp ho;simp only[List.length_cons] at ho;have h1:=hp p List.mem_cons_self;have:=e2g (n+4) g bytes hb hg out p (by omega) p [] (a0b-p.length-1) [] 0 rfl rfl (by simp;omega);rw[←lfu (by omega)] at this;have hfl:(p.flatMap g).length≤1000000:=by
   have key:∀q:List Slo,(q.flatMap g).length≤512*q.length:=by
    intro q;induction q with
    | nil=>simp
    | cons x q ih=>have:=hg x;rw[List.flatMap_cons,List.length_append,List.length_cons];omega
   have:=key p;omega
  rw[List.map_cons,s0p];dsimp only;rw[this,obs,a0y];dsimp only;rw[c0h,obs,List.nil_append];dsimp only;rw[show ((512:Int))=((512:Nat):Int) from rfl,t0l n _ 512 (by omega) (by omega),obs,tfd,if_pos (by omega),obs,ih (out++[padB (p.flatMap g) 512]) (fun q hq=>hp q (List.mem_cons_of_mem _ hq)) (by simp;omega)];simp
theorem x1v (n:Nat) (g:Slo→List UInt8) (bytes:(Slo×Unit)→Option (List UInt8)) (hb:∀x,bytes (x,())=some (g x)) (hg:∀x,(g x).length≤512) (out:List (List UInt8)) (l:List Slo) (m:Nat) (hm:1≤m) (hm':m≤1000) (hl:l.length≤100000) (ho:out.length≤100000) :
  i0b (n+6) out l (m:Int) bytes=some (out++cutB m g l):=by
 have hc:=u0x hm l;rw[b1a,d1a,g1s l m hm (by omega),obs,e2f n g bytes hb hg _ out (fun p hp=>by have:=(g1t hm hp).1;omega) (by omega),obs];rfl
def t0f (lost room:Nat):Nat→List Ev→List Ev→List Ev
 | _,[],out=>out
 | k,e::L,out=>t0f lost room (k+1) L (out.set ((lost+k) % room) e)
def j0l (r:Rw) (room:Int):List Ev:=t0f r.1.toNat room.toNat 0 r.2.2 (List.replicate room.toNat e0)
theorem j1y (lost room:Nat):∀(L:List Ev) (k:Nat) (out:List Ev),(t0f lost room k L out).length=out.length
 | [],_,_=>rfl
 | e::L,k,out=>by rw[t0f,j1y lost room L];simp
theorem round_l3 (n:Nat) (room:Int) (r:Rw) (h1:1≤room) (h2:room≤4096) (h3:0≤r.1) (h4:r.1≤70368744177664) (hL:r.2.2.length≤100000):∀(rest pre:List Ev) (f:Nat) (out:List Ev) (i:Int),r.2.2=pre++rest→i=pre.length→(out.length:Int)=room →
  k0i n (f+rest.length+1) (room,r,out,r.2.2,(r.2.2.length:Int),i,())=some (.inl (t0f r.1.toNat room.toNat pre.length rest out,())):=by
 intro rest;induction rest with
 | nil =>
  intro pre f out i h hi ho;rw[q0b];simp only[tfd,if_neg (idxe h hi rfl)];rfl
 | cons a rest ih =>
  intro pre f out i h hi ho;have hlen:=congrArg List.length h;simp at hlen;have hpos:Int.tmod (IntKind.wrap .i64 (r.1+i)) room=(((r.1.toNat+pre.length) % room.toNat:Nat):Int):=by
   rw[w64 (by omega) (by omega),Int.tmod_eq_emod_of_nonneg (by omega),Int.natCast_emod,hi,Int.natCast_add,Int.toNat_of_nonneg h3,Int.toNat_of_nonneg (by omega)]
  have hlt:(r.1.toNat+pre.length) % room.toNat<out.length:=by
   have:=Nat.mod_lt (r.1.toNat+pre.length) (show 0<room.toNat by omega);omega
  rw[show f+(a::rest).length+1=(f+rest.length+1)+1 by simp;omega,q0b];simp only[tfd,if_pos (idx h hi rfl)];rw[c0f h hi,obs,if_neg (by omega),hpos,Int.toNat_natCast,b1o (List.getElem?_eq_getElem hlt),obs,List.getElem?_eq_getElem hlt,obs,w64 (x:=i+1) (by omega) (by omega),
   ih (pre++[a]) f _ (i+1) (idxl h) (idxs hi) (by simpa using ho)]
  simp[t0f]
theorem g2j (n:Nat) {r:Rw} {room:Int} (h:RawOk r room):w0z (n+1) r room=some (j0l r room):=by
 have h1:=h.m0;have h2:=h.m1;have h3:=h.len;rw[i1r];have c1:(decide ((0:Int)≤room)&&(decide (room≤room)&&decide (room*(32:Int)≤(140737488355328:Int))))=true:=by
  rw[Bool.and_eq_true,Bool.and_eq_true,decide_eq_true_eq,decide_eq_true_eq,decide_eq_true_eq];omega
 have:=round_l3 n room r h1 h2 h.l0 h.l1 (by omega) r.2.2 [] (a0b-r.2.2.length-1) (List.replicate room.toNat e0) 0 rfl rfl (by simp;omega);rw[←lfu (by omega)] at this;rw[c1,tft];have e:List.replicate (Int.toNat room) ((0:Int),((0:Int),((0:Int),false)))=List.replicate room.toNat e0:=rfl;rw[e,this,obs,a0y];rfl
theorem z0u {n:Nat} (h:n<128):(uvB n).length=1:=by rw[x0p h];rfl
theorem u1r {n:Nat} (h:n<16384):(uvB n).length≤2:=by
 by_cases h1:n<128
 ·rw[z0u h1];omega
 ·rw[l1n h1,List.length_cons,z0u (by omega)];omega
theorem i2j:∀(l:List Lab),(∀x∈l,x.1.length≤64∧x.2.length≤128)→((l.flatMap fun x=>txB x.1++txB x.2).length:Int)≤3*(l.length:Int)+sumL l
 | [],_=>by simp[sumL]
 | x::l,h=>by
  have ih:=i2j l fun y hy=>h y (List.mem_cons_of_mem _ hy)
  obtain ⟨h1,h2⟩:=h x List.mem_cons_self;have e1:=z0u (n:=x.1.length) (by omega);have e2:=u1r (n:=x.2.length) (by omega);rw[e1s,List.flatMap_cons];simp only[txB,List.length_append,List.length_cons] at ih ⊢;omega
theorem o1b {l:List Lab} (h:LabOk l):(labB l).length≤320:=by
 have h1:=i2j l (p1g l none h.c);have h2:=h.n1;have h3:=h.t;have e1:=z0u (n:=l.length) (by omega);have h4:(labB l).length=1+(l.flatMap fun x=>txB x.1++txB x.2).length:=by unfold labB;rw[List.length_append,e1]
 omega
end Go.Proofs.YtagnkfbpgkckiaaGreatDoor
namespace Go.Proofs.YtagnkfbpgkckiaaGreatDoor
open Go.Flat
def idxC (c:Conf):Int:=prt c.2.2.2.2 120
def hom (c:Conf):Int:=1+idxC c+c.2.2.2.2
end Go.Proofs.YtagnkfbpgkckiaaGreatDoor
namespace Go.Proofs.YtagnkfbpgkckiaaGreatDoor
open Go.Flat
set_option linter.unusedVariables false
set_option linter.unusedSimpArgs false
theorem u1i (n:Nat) {c:Conf} (h:OkC c):q0h (n+4) c=some (plc c):=by
 rw[p1d,z0p n h,f1l (n+1) h.rng];simp only[obs,tfd,tfn];rw[if_pos trivial]
end Go.Proofs.YtagnkfbpgkckiaaGreatDoor
namespace Go.Proofs.YtagnkfbpgkckiaaGreatDoor
open Go.Flat Go.Plim
set_option linter.unusedVariables false
set_option linter.unusedSimpArgs false
theorem confEq (a b:Conf):((decide (a.1=b.1))&&((decide (a.2.1.1=b.2.1.1))&&((decide (a.2.1.2.1=b.2.1.2.1))&&((decide (a.2.1.2.2=b.2.1.2.2))&&((decide (a.2.2.1.1=b.2.2.1.1))&&((decide (a.2.2.1.2.1=b.2.2.1.2.1))&&((decide (a.2.2.1.2.2=b.2.2.1.2.2))&&((decide (a.2.2.2.1=b.2.2.2.1))&&(decide (a.2.2.2.2=b.2.2.2.2))))))))))=decide (a=b):=by
 rw[Bool.eq_iff_iff];simp[Prod.ext_iff,and_assoc]
theorem b2p (n:Nat) (l:List Ser) (hL:l.length≤1000000) (hm:∀x∈l,SerM x):∀(rest pre:List Ser) (f:Nat) (ix len:Int),l=pre++rest→ix=pre.length→len=l.length→rest.length<f →
  k0w (n+2) f (l,len,ix,())=some (.inl ())∨k0w (n+2) f (l,len,ix,())=some (.inr 0):=by
 intro rest;induction rest with
 | nil =>
  intro pre f ix len hl hi hn hf;obtain ⟨f,rfl⟩:∃g,f=g+1:=⟨f-1,by simp at hf;omega⟩;left;rw[t0s];simp only[tfd,if_neg (idxe hl hi hn)]
 | cons x rest ih =>
  intro pre f ix len hl hi hn hf;obtain ⟨f,rfl⟩:∃g,f=g+1:=⟨f-1,by simp at hf;omega⟩;have hx:SerM x:=hm x (by rw[hl];simp);rw[t0s];simp only[tfd,if_pos (idx hl hi hn),c0f hl hi,obs,idxw hl hi (show l.length≤1000000000000 by omega)];rcases i2k n x hx.l with h | h
  ·rw[h];right;rfl
  ·rw[h];simp only[obs,if_neg (show ¬((1:Int)=0) by decide)];exact ih (pre++[x]) f (ix+1) len (idxl hl) (idxs hi) hn (by simp at hf;omega)
theorem s1k (n:Nat) {s:Sta} (hw:StaW s):t0t (n+3) s=some 0∨(t0t (n+3) s=some 1∧s.2.2.2.length≤8):=by
 rw[s1l];simp only[tfd];by_cases h:(8:Int)<(s.2.2.2.length:Int)
 ·rw[if_pos h];exact .inl rfl
 ·rw[if_neg h];rcases b2p n s.2.2.2 (by omega) (fun x hx=>(hw.ser x hx).2) s.2.2.2 [] a0b 0 _ rfl rfl rfl (by unfold a0b;omega) with h1 | h1
  ·rw[h1];exact .inr ⟨rfl,by omega⟩
  ·rw[h1];exact .inl rfl
theorem ser_m' {s:Ser} (h:Wf a0n s):SerM s:=by
 obtain ⟨h1,h2,h3,⟨h4,h5,h6⟩,h7⟩:=h;have e1:=h1.1;have e3:=h3.2.2.1;have e4:=h4.1;have e5:=h5.1;have e6:=h6.1;simp only[maxLen] at e1 e3 e4 e5 e6;exact ⟨e1,e3,e4,e5,e6⟩
theorem sta_wf {s:Sta} (h:Wf a0j s):StaW s:=by
 obtain ⟨h1,h2,h3,h4⟩:=h;have e:=h4.1;simp only[maxLen] at e;exact ⟨e,fun x hx=>⟨ser_wf (h4.2 x hx),ser_m' (h4.2 x hx)⟩⟩
def q0c (x:Ser):List UInt8 :=
 toB (beI 2 ((labB x.1).length:Int))++(padB (labB x.1) 320++(n8B x.2.1++(n8B x.2.2.1.1++(n8B x.2.2.1.2.1++(toB (beI 2 (x.2.2.1.2.2.length:Int))++c0o x.2.2.2.2)))))
def g0m (x:Ser):List UInt8:=padB (q0c x) 512
def zsec:List UInt8:=List.replicate 512 0
noncomputable def j0c (c:Conf) (x:Ser):List (List UInt8) :=
 if x=ser0 then List.replicate (plc c).toNat zsec
 else g0m x::(cutB 16 i0c (j0l x.2.2.1 c.1)++(cutB 4 c0o x.2.2.2.1.1++(cutB 4 c0o x.2.2.2.1.2.1++cutB 4 c0o x.2.2.2.1.2.2)))
def f1y:List UInt8:=[112,108,105,109,115,111,108,108]
def e1r (s:Sta):List UInt8:=f1y++(toB (bts s.1)++(n8B s.2.1++n8B (s.2.2.1+1)))
def t0b (s:Sta):List UInt8:=padB (e1r s) 512
noncomputable def allB (s:Sta):List (List UInt8):=t0b s::s.2.2.2.flatMap (j0c s.1)
theorem p1n (x:Int):(toB (beI 2 x)).length=2:=by simp[g0q,c0l]
theorem k1v {x:Ser} (h:(labB x.1).length≤320):(q0c x).length=476:=by
 have e1:=o0i (labB x.1) 320;have e2:=f0r x.2.2.2.2;unfold q0c;simp only[List.length_append,p1n,w0q,e1,e2];omega
theorem k1w {x:Ser} (h:(labB x.1).length≤320):(g0m x).length=512:=by rw[g0m,o0i,k1v h];rfl
theorem w0i (c:Conf):(toB (bts c)).length=56:=by rw[g0q,e2o]
theorem j1l (s:Sta):(e1r s).length=80:=by
 unfold e1r f1y;simp only[List.length_append,w0i,w0q];rfl
theorem b2j (s:Sta):(t0b s).length=512:=by rw[t0b,o0i,j1l];rfl
theorem l1a (w:List Int) (h:∀x∈w,0≤x∧x≤255):c0w (toB w)=w:=by
 induction w with
 | nil=>rfl
 | cons a w ih =>
  have ha:=h a List.mem_cons_self;have e:c0w (toB (a::w))=(((UInt8.ofNat a.toNat).toNat:Nat):Int)::c0w (toB w):=rfl;rw[e,ih fun x hx=>h x (List.mem_cons_of_mem _ hx)];congr 1;simp;omega
theorem hd_val (n:Nat) {x:Ser} (hl:LabOk x.1) (hr:x.2.2.1.2.2.length≤4096):x0d (n+8) x=some (g0m x,0):=by
 have hlab:=o1b hl;have h2:∀v:Int,(beI 2 v).length=2:=fun v=>by simp[c0l]
 have e1:=o0i (labB x.1) 320;rw[i1s,w1x n x.1,if_pos hl,obs];dsimp only;rw[wu64 (by omega) (by omega),b0x (n+6) [] 2 2 _ rfl (by omega) (by omega) (by simp),obs,List.nil_append,
  show ((320:Int))=((320:Nat):Int) from rfl,t0l (n+2) _ 320 (by omega) (by omega),obs,m1o (n+6) (by rw[h2];omega),obs,
  y0u (n+5) _ _ (by simp) (by simp[h2,k0d];omega),obs,wu64 (by omega) (by omega),b0x (n+6) _ 2 2 _ rfl (by omega) (by omega) (by simp[h2,k0d,w0p];omega),obs,
  y1r (n+1),obs,m1o (n+6) (by simp[h2,k0d,w0p,f0r];omega),obs,f1s (n+6),obs]
 dsimp only;have e:toB (beI 2 ((labB x.1).length:Int)++c0w (padB (labB x.1) 320)++List.flatMap n8I [x.2.1,x.2.2.1.1,x.2.2.1.2.1]++beI 2 (x.2.2.1.2.2.length:Int)++c0w (c0o x.2.2.2.2))=q0c x:=by
  unfold q0c n8B;simp only[l1s,u0i,List.flatMap_cons,List.flatMap_nil,List.append_nil,List.append_assoc]
 rw[e,show ((512:Int))=((512:Nat):Int) from rfl,t0l (n+2) _ 512 (by rw[k1v hlab];omega) (by omega),obs];rfl
theorem k2c (n:Nat) {x:Ser} (h:SerM x):x0e (n+4) x=some (decide (x=ser0)):=by
 have:=w0l n x ser0 h;rw[i1t];have e:d0t (n+3) x ([],((0:Int),(((0:Int),((0:Int),[])),(([],([],[])),((0:Int),z0)))))=some (decide (x=ser0)):=this
 change a0a (d0t (n+3) x ([],((0:Int),(((0:Int),((0:Int),[])),(([],([],[])),((0:Int),z0)))))) _=_
 rw[e];rfl
theorem u1u {c:Conf} {x:Ser} (h:SerOk c x):x.2.2.2.1.1.length≤4096∧x.2.2.2.1.2.1.length≤4096∧x.2.2.2.1.2.2.length≤4096:=⟨h.fold.t0.l1,h.fold.t1.l1,h.fold.t2.l1⟩
theorem y0m {r:Rw} {room:Int} (h:RawOk r room):(j0l r room).length=room.toNat∧room.toNat≤4096:=⟨by unfold j0l;rw[j1y];simp,by have:=h.m1;omega⟩
theorem g2y (n:Nat) {c:Conf} {x:Ser} (hc:OkC c) (hw:SerW x) (hm:SerM x):x0g (n+12) c x=some (if x=ser0∨SerOk c x then (j0c c x,0) else ([],2)):=by
 have hr:=hc.rng;have hp:=p0s hr;rw[i1v,z0p (n+8) hc,obs,decide_eq_true (rfl:(0:Int)=0),Bool.not_true,tff,k2c (n+7) hm,obs,tfd];by_cases h0:x=ser0
 ·rw[if_pos h0,if_pos (.inl h0),show ((512:Int))=((512:Nat):Int) from rfl,t0l (n+6) [] 512 (by simp) (by omega),obs,u1i (n+7) hc,obs,
   show plc c=(((plc c).toNat:Nat):Int) by omega,v1w (n+8) _ (plc c).toNat (by omega) (by omega),obs]
  unfold j0c;rw[if_pos h0];rfl
 rw[if_neg h0,b1y n c hw,obs];by_cases hs:SerOk c x
 ·have ht:=u1u hs;have hrd:=y0m hs.raw;have hln:=hs.raw.len;have hlab:=o1b hs.lab;have hch:∀ {α:Type} (m:Nat) (f:α→List UInt8) (l:List α),1≤m→l.length≤4096→(cutB m f l).length≤4096:=fun m f l hm hl=>by
   rw[o1x];have:=u0x hm l;omega
  rw[if_pos hs,if_pos (.inr hs),decide_eq_true (rfl:(0:Int)=0),Bool.not_true,tff,hd_val (n+3) hs.lab (by have:=hs.raw.m1;omega),obs,decide_eq_true (rfl:(0:Int)=0),Bool.not_true,tff,g2j (n+10) hs.raw,obs,
   show ((16:Int))=((16:Nat):Int) from rfl,t1m (n+5) i0c (fun y0=>r0v (n+11) y0.1) (fun e=>j2p (n+5) e) (fun e=>by rw[q0e];omega) _ _ 16 (by omega) (by omega) (by omega) (by simp),obs]
  have c1:=hch 16 i0c (j0l x.2.2.1 c.1) (by omega) (by omega);have c2:=hch 4 c0o x.2.2.2.1.1 (by omega) ht.1;have c3:=hch 4 c0o x.2.2.2.1.2.1 (by omega) ht.2.1;have c4:=hch 4 c0o x.2.2.2.1.2.2 (by omega) ht.2.2;have cv:=fun (out:List (List UInt8)) (l:List Slo) (h1:l.length≤4096) (h2:out.length≤100000)=>x1v (n+5) c0o (fun y0=>j0y (n+11) y0.1) (fun e=>y1r (n+5) e) (fun e=>by rw[f0r];omega) out l 4 (by omega) (by omega) (by omega) h2
  have hl:e0z (n+11) a0b ([g0m x]++cutB 16 i0c (j0l x.2.2.1 c.1),x.2.2.2.1,(0:Int),())=some (.inl (g0m x::(cutB 16 i0c (j0l x.2.2.1 c.1)++(cutB 4 c0o x.2.2.2.1.1++(cutB 4 c0o x.2.2.2.1.2.1++cutB 4 c0o x.2.2.2.1.2.2))),())):=by
   obtain ⟨f,hf⟩:∃f,a0b=f+4:=⟨a0b-4,by unfold a0b;omega⟩;rw[hf,g0e,tfd,if_pos (by omega),tfd,if_pos rfl,show ((4:Int))=((4:Nat):Int) from rfl,cv _ _ ht.1 (by simp;omega),obs,show IntKind.wrap .i64 ((0:Int)+1)=1 from by decide,
    g0e,tfd,if_pos (by omega),tfd,if_neg (by omega),tfd,if_pos rfl,show ((4:Int))=((4:Nat):Int) from rfl,cv _ _ ht.2.1 (by simp;omega),obs,show IntKind.wrap .i64 ((1:Int)+1)=2 from by decide,
    g0e,tfd,if_pos (by omega),tfd,if_neg (by omega),tfd,if_neg (by omega),tfd,if_pos rfl,show ((4:Int))=((4:Nat):Int) from rfl,cv _ _ ht.2.2 (by simp;omega),obs,show IntKind.wrap .i64 ((2:Int)+1)=3 from by decide,
    g0e,tfd,if_neg (by omega)]
   simp
  rw[hl,obs,a0y];unfold j0c;rw[if_neg h0]
 ·rw[if_neg hs,if_neg (by rintro (k | k);exact h0 k;exact hs k)];rfl
theorem f2p (n:Nat) {s:Sta} (hw:StaW s):x0f (n+15) s=some (if StaOk s then (t0b s,0) else ([],2)):=by
 rw[i1u,k0o n hw,obs];by_cases h:StaOk s
 ·have hc:=h.whole.1;have hb:=w0i s.1;have hk:=h.clock;rw[if_pos h,if_pos h,decide_eq_true (rfl:(0:Int)=0),Bool.not_true,tff,bytes_ok (n+10) hc,obs,tfd,if_pos (by omega),m1o (n+13) (by simp[hb]),obs,
   y0u (n+12) _ _ (by simp) (by simp[k0d,hb]),obs,f1s (n+13),obs]
  dsimp only;have hsw:IntKind.wrap .i64 (s.2.2.1+1)=s.2.2.1+1:=by
   obtain ⟨_,k,_⟩:=hk;rcases k with k | ⟨k1,k2⟩
   ·rw[k];decide
   ·exact w64 (by omega) (by omega)
  have e:toB ([]++c0w (f1y++toB (bts s.1))++List.flatMap n8I [s.2.1,IntKind.wrap .i64 (s.2.2.1+1)])=e1r s:=by
   rw[hsw];unfold e1r n8B;simp only[List.nil_append,l1s,u0i,List.flatMap_cons,List.flatMap_nil,List.append_nil,List.append_assoc]
  change a0a (g0k (n+14) (toB ([]++c0w (f1y++toB (bts s.1))++List.flatMap n8I [s.2.1,IntKind.wrap .i64 (s.2.2.1+1)])) 512) _=_
  rw[e,show ((512:Int))=((512:Nat):Int) from rfl,t0l (n+9) _ 512 (by rw[j1l];omega) (by omega),obs];rfl
 ·rw[if_neg h,if_neg h];rfl
theorem c2k {c:Conf} {x:Ser} (hc:OkC c) (h:x=ser0∨SerOk c x):(j0c c x).length≤100000:=by
 have hp:=p0s hc.rng;unfold j0c;split
 ·simp;omega
 ·rename_i h0;have hs:SerOk c x:=h.resolve_left h0;have ht:=u1u hs;have hrd:=y0m hs.raw;have hch:∀ {α:Type} (m:Nat) (f:α→List UInt8) (l:List α),1≤m→l.length≤4096→(cutB m f l).length≤4096:=fun m f l hm hl=>by
   rw[o1x];have:=u0x hm l;omega
  have c1:=hch 16 i0c (j0l x.2.2.1 c.1) (by omega) (by omega);have c2:=hch 4 c0o x.2.2.2.1.1 (by omega) ht.1;have c3:=hch 4 c0o x.2.2.2.1.2.1 (by omega) ht.2.1;have c4:=hch 4 c0o x.2.2.2.1.2.2 (by omega) ht.2.2;simp;omega
theorem f1e {s:Sta} {i:Nat} {x:Ser} (h:s0n s i x):x=ser0∨SerOk s.1 x:=by
 rcases h with h | h
 ·exact .inl h
 ·exact .inr h.1
theorem all_l4 (n:Nat) {s:Sta} (hw:StaW s) (hs:StaOk s):∀(rest pre:List Ser) (f:Nat) (out:List (List UInt8)) (i:Int),s.2.2.2=pre++rest→i=pre.length→out.length≤100000*pre.length+1 →
  o0n (n+12) (f+rest.length+1) (s,(0:Int),out,i,())=some (.inl ((0:Int),out++rest.flatMap (j0c s.1),())):=by
 have hL:=hs.whole.len;intro rest;induction rest with
 | nil =>
  intro pre f out i h hi ho;have hn:¬(i<((s.2.2.2.length:Nat):Int)):=by have:=congrArg List.length h;simp at this;omega
  rw[n0p,tfd,if_pos rfl,tfd,if_neg hn];simp
 | cons a rest ih =>
  intro pre f out i h hi ho;have hlen:=congrArg List.length h;simp at hlen;have hia:s.2.2.2[pre.length]? = some a:=by rw[h];simp
  have hr:=f1e (hs.right pre.length a hia);obtain ⟨w1,w2⟩:=hw.at hia;have hpl:=c2k hs.whole.1 hr;rw[show f+(a::rest).length+1=(f+rest.length+1)+1 by simp;omega,n0p,tfd,if_pos rfl,tfd,if_pos (by omega),c0f h hi,obs,g2y n hs.whole.1 w1 w2,if_pos hr,obs];dsimp only;rw[tfd,if_pos (by omega),w64 (x:=i+1) (by omega) (by omega)];rw[ih (pre++[a]) f _ (i+1) (idxl h) (idxs hi) (by simp;omega)];simp
theorem p1p (n:Nat) {s:Sta} (hw:StaW s):l0b (n+16) s=some (if StaOk s then (allB s,0) else ([],2)):=by
 rw[s1x,f2p n hw,obs];by_cases h:StaOk s
 ·have hL:=h.whole.len;rw[if_pos h,if_pos h];dsimp only;have:=all_l4 (n+3) hw h s.2.2.2 [] (a0b-s.2.2.2.length-1) [t0b s] 0 rfl rfl (by simp);rw[←lfu (by omega)] at this;rw[this,obs,a0y];rfl
 ·rw[if_neg h,if_neg h];obtain ⟨f,hf⟩:∃f,a0b=f+1:=⟨a0b-1,by unfold a0b;omega⟩;dsimp only;rw[hf,n0p,tfd,if_neg (by decide),obs,a0y];rfl
theorem rsame_l (n:Nat) (a b:List (List UInt8)) (hL:a.length≤9223372036854775807):∀(ra rb pa pb:List (List UInt8)) (f:Nat) (i:Int),a=pa++ra→b=pb++rb→pa.length=pb.length→ra.length=rb.length→i=pa.length→ra.length<f →
  r0j n f (a,b,(a.length:Int),i,())=some (if ra=rb then .inl () else .inr false):=by
 intro ra;induction ra with
 | nil =>
  intro rb pa pb f i ha hb hp hr hi hf;obtain ⟨f,rfl⟩:=r0x hf;have:rb=[]:=List.eq_nil_of_length_eq_zero (by simpa using hr.symm);subst this;rw[v0u,decide_eq_false (idxe ha hi rfl),tff,if_pos rfl]
 | cons x ra ih =>
  intro rb pa pb f i ha hb hp hr hi hf;obtain ⟨f,rfl⟩:=r0x hf;cases rb with
  | nil=>simp at hr
  | cons y rb =>
   have hlen:=congrArg List.length ha;simp at hlen;rw[v0u,decide_eq_true (idx ha hi rfl),tft,c0f ha hi,obs,c0f hb (by omega),obs];by_cases hxy:x=y
   ·subst hxy;rw[beq_self_eq_true,Bool.not_true,tff,w64 (by omega) (by omega),ih rb (pa++[x]) (pb++[x]) f (i+1) (idxl ha) (idxl hb) (by simp;omega) (by simpa using hr) (idxs hi) (by simp at hf;omega)];simp
   ·rw[show (x==y)=false from beq_false_of_ne hxy,Bool.not_false,tft,if_neg (fun h=>hxy (List.cons.inj h).1)]
theorem g2g (n:Nat) (a b:List (List UInt8)) (hL:a.length≤1000000000000):m1y (n+1) a b=some (decide (a=b)):=by
 rw[w1d];by_cases h:a.length=b.length
 ·rw[decide_eq_true (show ((a.length:Nat):Int)=(b.length:Nat) by omega),Bool.not_true,tff,rsame_l n a b (by omega) a b [] [] a0b 0 rfl rfl rfl h rfl (by unfold a0b;omega),obs];by_cases he:a=b
  ·rw[if_pos he,decide_eq_true he];rfl
  ·rw[if_neg he,decide_eq_false he];rfl
 ·rw[decide_eq_false (show ¬((a.length:Nat):Int)=(b.length:Nat) by omega),Bool.not_false,tft,decide_eq_false (fun e=>h (by rw[e]))]
theorem c1q {α:Type} {m f:Nat} (hm:1≤m) {xs:List α} (h:xs.length≤f):d0p f m xs=d0p xs.length m xs :=
 List.ext_getElem? fun k=>by rw[i0j hm f xs h,i0j hm _ xs (Nat.le_refl _)]
theorem cutB_nil {α:Type} (m:Nat) (f:α→List UInt8):cutB m f []=[]:=rfl
theorem k2e {α:Type} {m:Nat} (hm:1≤m) (f:α→List UInt8) {l:List α} (h:l≠[]):cutB m f l=padB ((l.take m).flatMap f) 512::cutB m f (l.drop m):=by
 cases l with
 | nil=>exact absurd rfl h
 | cons x t =>
  unfold cutB;show List.map _ (d0p (t.length+1) m (x::t))=_;rw[c1r,List.map_cons,c1q hm (by simp;omega)]
theorem t1u {α:Type} {m:Nat} (hm:1≤m) (xs:List α):(d0p xs.length m xs).length=(xs.length+m-1) / m:=by
 obtain ⟨c,hc⟩:∃c,c=(d0p xs.length m xs).length:=⟨_,rfl⟩;have h1:=(m0i hm xs c);rw[hc] at h1;have h2:¬(d0p xs.length m xs).length*m<xs.length:=fun h=>Nat.lt_irrefl _ (h1.2 h)
 rw[←hc] at h2 ⊢;symm;apply Nat.div_eq_of_lt_le
 ·cases c with
  | zero=>omega
  | succ k =>
   have h3:=(m0i hm xs k).1 (by rw[←hc];omega);rw[Nat.add_mul];omega
 ·rw[Nat.succ_mul];omega
theorem h0a {α:Type} {m:Nat} (hm:1≤m) (f:α→List UInt8) (l:List α):(cutB m f l).length=(l.length+m-1) / m:=by rw[o1x,t1u hm]
theorem t1n {α:Type} {m w:Nat} (hm:1≤m) (hmw:m*w=512) {f:α→List UInt8}:∀(k:Nat) (l:List α),l.length≤k→(∀x∈l,(f x).length=w)→∃z,(cutB m f l).flatten=l.flatMap f++z:=by
 intro k;induction k with
 | zero =>
  intro l h _;have:l=[]:=List.eq_nil_of_length_eq_zero (by omega);subst this;exact ⟨[],rfl⟩
 | succ k ih =>
  intro l h hf;by_cases hl:l=[]
  ·subst hl;exact ⟨[],rfl⟩
  ·have hpos:=List.length_pos_iff.2 hl;rw[k2e hm f hl,List.flatten_cons];obtain ⟨z,hz⟩:=ih (l.drop m) (by rw[List.length_drop];omega) fun x hx=>hf x (List.mem_of_mem_drop hx)
   by_cases hc:m≤l.length
   ·have hlen:((l.take m).flatMap f).length=512:=by
     rw[e1b _ fun x hx=>hf x (List.mem_of_mem_take hx),List.length_take,Nat.min_eq_left hc,hmw]
    refine ⟨z,?_⟩;rw[hz];have e:padB ((l.take m).flatMap f) 512=(l.take m).flatMap f:=by unfold padB;rw[hlen];simp
    rw[e,←List.append_assoc,←List.flatMap_append,List.take_append_drop]
   ·have e1:l.take m=l:=List.take_of_length_le (by omega);have e2:l.drop m=[]:=List.drop_of_length_le (by omega);rw[e1,e2,cutB_nil,List.flatten_nil,List.append_nil];exact ⟨_,rfl⟩
theorem o0p {α:Type} {m w:Nat} (hm:1≤m) (hmw:m*w=512) {f:α→List UInt8} {l:List α} (hf:∀x∈l,(f x).length=w):∀s∈cutB m f l,s.length=512:=by
 intro s hs;unfold cutB at hs;obtain ⟨p,hp,rfl⟩:=List.mem_map.1 hs;obtain ⟨h1,h2⟩:=g1t hm hp;rw[o0i,e1b _ fun x hx=>hf x (h2 x hx)];have:p.length*w≤m*w:=Nat.mul_le_mul_right w h1;omega
theorem j2i {α:Type} {w:Nat} {f:α→List UInt8} {l:List α} {j:Nat} {x:α} (hf:∀y∈l,(f y).length=w) (hx:l[j]? = some x) (z:List UInt8):∃t,(l.flatMap f++z).drop (j*w)=f x++t:=by
 have hj:=(List.getElem?_eq_some_iff.1 hx).1;have hlen:=e1b l hf;have hle:j*w≤(l.flatMap f).length:=by rw[hlen];exact Nat.mul_le_mul_right w (Nat.le_of_lt hj)
 rw[List.drop_append_of_le_length hle,t1e j l hf];have:l.drop j=x::l.drop (j+1):=by
  rw[List.drop_eq_getElem_cons hj];congr 1;rw[List.getElem?_eq_getElem hj] at hx;injection hx
 rw[this,List.flatMap_cons,List.append_assoc];exact ⟨_,rfl⟩
theorem h2u {a d r:Nat} (hr:0<r) (h1:0<d) (h2:d<r):a % r≠(a+d) % r:=by
 intro h;have h3:(a+d) % r=(a % r+d) % r:=by rw[Nat.mod_add_mod]
 have h4:=Nat.mod_lt a hr;rw[h3] at h;rcases Nat.lt_or_ge (a % r+d) r with k | k
 ·rw[Nat.mod_eq_of_lt k] at h;omega
 ·rw[Nat.mod_eq_sub_mod k,Nat.mod_eq_of_lt (a:=a % r+d-r) (b:=r) (by omega)] at h;omega
theorem k1a (lost room:Nat):∀(L:List Ev) (k:Nat) (out:List Ev) (p:Nat),(∀j,j<L.length→(lost+(k+j)) % room≠p)→(t0f lost room k L out)[p]? = out[p]?
 | [],k,out,p,_=>rfl
 | e::L,k,out,p,h=>by
  have h0:=h 0 (by simp);rw[Nat.add_zero] at h0;rw[t0f,k1a lost room L (k+1) _ p fun j hj=>by have:=h (j+1) (by simp;omega);rwa [show k+(j+1)=k+1+j by omega] at this];rw[List.getElem?_set_ne h0]
theorem j1z (lost room:Nat) (hr:0<room):∀(L:List Ev) (k:Nat) (out:List Ev) (i:Nat) (x:Ev),L.length≤room→out.length=room→L[i]? = some x→(t0f lost room k L out)[(lost+(k+i)) % room]? = some x
 | [],k,out,i,x,_,_,h=>by simp at h
 | e::L,k,out,0,x,hL,ho,h=>by
  simp at h;subst h;have hlt:=Nat.mod_lt (lost+k) hr;show (t0f lost room (k+1) L (out.set ((lost+k) % room) e))[(lost+k) % room]? = some e;rw[k1a lost room L (k+1) _ _ fun j hj => ?_]
  ·rw[List.getElem?_set_self (by omega)]
  ·have:=h2u (a:=lost+k) hr (show 0<1+j by omega) (by simp at hL;omega);rw[show lost+(k+1+j)=lost+k+(1+j) by omega];exact fun q=>this q.symm
 | e::L,k,out,i+1,x,hL,ho,h=>by
  rw[t0f,show k+(i+1)=k+1+i by omega];exact j1z lost room hr L (k+1) _ i x (by simp at hL;omega) (by simpa using ho) (by simpa using h)
theorem g2k {r:Rw} {room:Int} (h:RawOk r room) {i:Nat} {x:Ev} (hx:r.2.2[i]? = some x):(j0l r room)[(r.1.toNat+i) % room.toNat]? = some x:=by
 have h1:=h.m0;have h2:=h.len;have:=j1z r.1.toNat room.toNat (by omega) r.2.2 0 (List.replicate room.toNat e0) i x (by omega) (by simp) hx
 rwa [Nat.zero_add] at this
abbrev Rdr:=List UInt8×Bool
def rdI (st:Rdr):Int×Rdr:=(IntKind.wrap .i64 (rd st 8).1,(rd st 8).2)
def evR (st:Rdr):Ev×Rdr :=
 let a:=rdI st
 let b:=rd a.2 8
 let c:=rdI b.2
 let d:=rd c.2 1
 ((a.1,(b.1,(c.1,decide (d.1=1)))),d.2)
def slR (st:Rdr):Slo×Rdr :=
 let a:=rdI st
 let b:=rdI a.2
 let f:=evR b.2
 let l:=evR f.2
 let h:=rd l.2 8
 let i:=rd h.2 8
 let r:=rdI i.2
 let g:=rdI r.2
 let s:=rdI g.2
 ((a.1,(b.1,(f.1,(l.1,((h.1,i.1),(r.1,(g.1,s.1))))))),s.2)
theorem r0h (n:Nat) (st:Rdr):g0j (n+4) st=some (evR st):=by
 rw[z0e,a0p n st 8 8 rfl (by omega) (by omega),obs,a0p n _ 8 8 rfl (by omega) (by omega),obs,a0p n _ 8 8 rfl (by omega) (by omega),obs,a0p n _ 1 1 rfl (by omega) (by omega),obs];rfl
theorem c1d (n:Nat) (s:List UInt8):k0j (n+5) s=some (slR (s,false)).1:=by
 rw[a1z,f0n,obs,a0p (n+1) _ 8 8 rfl (by omega) (by omega),obs,a0p (n+1) _ 8 8 rfl (by omega) (by omega),obs,r0h n,obs,r0h n,obs,
  a0p (n+1) _ 8 8 rfl (by omega) (by omega),obs,a0p (n+1) _ 8 8 rfl (by omega) (by omega),obs,a0p (n+1) _ 8 8 rfl (by omega) (by omega),obs,a0p (n+1) _ 8 8 rfl (by omega) (by omega),obs,a0p (n+1) _ 8 8 rfl (by omega) (by omega),obs]
 rfl
theorem rd_n8 (v:Int) (t:List UInt8):rd (n8B v++t,false) 8=(IntKind.wrap .u64 v,(t,false)):=by
 unfold n8B n8I;rw[a1i 8];have h:=IntKind.wrap_u64 v;have:(256:Int)^8=18446744073709551616:=rfl;rw[this,Int.emod_eq_of_lt (by omega) (by omega)]
theorem f1g {v:Int} (h:I64 v) (t:List UInt8):rdI (n8B v++t,false)=(v,(t,false)):=by
 unfold rdI;rw[rd_n8];have h1:=IntKind.wrap_u64 v;have h2:=IntKind.wrap_i64 (IntKind.wrap .u64 v);have h3:=h.1;have h4:=h.2;have:IntKind.wrap .i64 (IntKind.wrap .u64 v)=v:=by omega
 rw[this]
theorem rd_u8 {v:Int} (h0:0≤v) (h1:v≤18446744073709551615) (t:List UInt8):rd (n8B v++t,false) 8=(v,(t,false)):=by rw[rd_n8,wu64 (by omega) (by omega)]
theorem rd_b1 (b:Bool) (t:List UInt8):rd (toB [if b=true then (1:Int) else 0]++t,false) 1=((if b=true then 1 else 0),(t,false)):=by
 have:=a1i 1 (if b=true then (1:Int) else 0) t;have e:beI 1 (if b=true then (1:Int) else 0)=[if b=true then (1:Int) else 0]:=by cases b<;>rfl
 rw[e] at this;rw[this];cases b<;>rfl
theorem o1r {e:Ev} (h:EvW e) (t:List UInt8):evR (t0e e++t,false)=(e,(t,false)):=by
 have es:t0e e++t=n8B e.1++(n8B e.2.1++(n8B e.2.2.1++(toB [if e.2.2.2=true then (1:Int) else 0]++t))):=by
  unfold t0e v0p n8B;simp only[l1s,List.append_assoc]
 unfold evR;rw[es,f1g h.t];dsimp only;rw[rd_u8 h.v.1 h.v.2];dsimp only;rw[f1g h.c];dsimp only;rw[rd_b1];obtain ⟨a,b,c,d⟩:=e;cases d<;>rfl
theorem slR_good {s:Slo} (h:SloW s) (t:List UInt8):slR (toB (sloI s)++t,false)=(s,(t,false)):=by
 have es:toB (sloI s)++t=n8B s.1++(n8B s.2.1++(t0e s.2.2.1++(t0e s.2.2.2.1++(n8B s.2.2.2.2.1.1++(n8B s.2.2.2.2.1.2++(n8B s.2.2.2.2.2.1++(n8B s.2.2.2.2.2.2.1++(n8B s.2.2.2.2.2.2.2++t)))))))):=by
  unfold sloI n8B t0e;simp only[l1s,List.append_assoc]
 have hw:=h.c.w;unfold slR;rw[es,f1g h.i];dsimp only;rw[f1g h.c.n];dsimp only;rw[o1r h.c.f];dsimp only;rw[o1r h.c.l];dsimp only;rw[rd_u8 hw.1.1 hw.1.2];dsimp only;rw[rd_u8 hw.2.1 hw.2.2];dsimp only;rw[f1g h.c.r];dsimp only;rw[f1g h.c.g];dsimp only;rw[f1g h.c.s]
theorem j2q {e:Ev} (h:EvW e) (t:List UInt8):(evR (i0c e++t,false)).1=e:=by
 have:i0c e++t=t0e e++(List.replicate (32-(t0e e).length) 0++t):=by unfold i0c padB;simp
 rw[this,o1r h]
theorem y1t {s:Slo} (h:SloW s) (t:List UInt8):(slR (c0o s++t,false)).1=s:=by
 have:c0o s++t=toB (sloI s)++(List.replicate (128-(toB (sloI s)).length) 0++t):=by unfold c0o padB;simp
 rw[this,slR_good h]
theorem join_l12 (n:Nat) (sep:List UInt8) (l:List (List UInt8)) (hl:l.length≤1000000) (hs:∀s∈l,s.length≤1000000):∀(rest pre:List (List UInt8)) (f:Nat) (k i:Int),l=pre++rest→i=pre.length→0≤k→k≤1000000*pre.length →
  ∃q,f0q n (f+rest.length+1) (l,sep,k,l,(l.length:Int),i,())=some (.inl (l,sep,q,()))∧0≤q∧q≤1000000000000:=by
 intro rest;induction rest with
 | nil =>
  intro pre f k i h hi h0 h1;have hlen:=congrArg List.length h;simp at hlen;rw[m0r];simp only[tfd,if_neg (idxe h hi rfl)];exact ⟨_,rfl,h0,by omega⟩
 | cons a rest ih =>
  intro pre f k i h hi h0 h1;have hlen:=congrArg List.length h;simp at hlen;have ha:=hs a (by rw[h];simp);rw[show f+(a::rest).length+1=(f+rest.length+1)+1 by simp;omega,m0r];simp only[tfd,if_pos (idx h hi rfl)];rw[c0f h hi,obs,w64 (x:=9223372036854775807-k) (by omega) (by omega),if_neg (by omega),w64 (x:=k+((a.length:Nat):Int)) (by omega) (by omega),w64 (x:=i+1) (by omega) (by omega)];exact ih (pre++[a]) f _ (i+1) (idxl h) (idxs hi) (by omega) (by simp;omega)
theorem join_l22 (n:Nat) (l:List (List UInt8)) (hl:l.length≤1000000) (hs:∀s∈l,s.length≤1000000):∀(rest pre:List (List UInt8)) (f:Nat) (b:List UInt8) (i:Int),l=pre++rest→i=pre.length→b.length≤1000000*(pre.length+1) →
  f0p (n+1) (f+rest.length+1) ([],b,l,(l.length:Int),i,())=some (.inl (b++rest.flatten,())):=by
 intro rest;induction rest with
 | nil =>
  intro pre f b i h hi hb;rw[m0q];simp only[tfd,if_neg (idxe h hi rfl)];simp
 | cons a rest ih =>
  intro pre f b i h hi hb;have hlen:=congrArg List.length h;simp at hlen;have ha:=hs a (by rw[h];simp);rw[show f+(a::rest).length+1=(f+rest.length+1)+1 by simp;omega,m0q];simp only[tfd,if_pos (idx h hi rfl)];rw[c0f h hi,obs,wst n b [] (by simp;omega),obs];dsimp only;rw[List.append_nil,wst n b a (by omega),obs];dsimp only;rw[w64 (x:=i+1) (by omega) (by omega),ih (pre++[a]) f _ (i+1) (idxl h) (idxs hi) (by simp;omega)];simp
theorem join_val (n:Nat) (l:List (List UInt8)) (hl:l.length≤1000000) (hs:∀s∈l,s.length≤1000000):strings_Join (n+2) l []=some l.flatten:=by
 rw[e1t]
 match l,hl,hs with
 | [],_,_=>rfl
 | [a],_,_ =>
  rw[tfd,if_neg (by simp),tfd,if_pos (by simp),show at? [a] (0:Int)=some a from rfl,obs];simp
 | a::b::t,hl,hs =>
  obtain ⟨L,hL⟩:∃L,L=a::b::t:=⟨_,rfl⟩;have h2:2≤L.length:=by rw[hL];simp
  rw[←hL] at hl hs ⊢;rw[tfd,if_neg (by omega),tfd,if_neg (by omega),tfd,if_neg (by simp)];obtain ⟨q,h3,h4,h5⟩:=join_l12 (n+1) [] L hl hs L [] (a0b-L.length-1) 0 0 rfl rfl (by omega) (by simp);rw[←lfu (by omega)] at h3;rw[h3,obs,a0y];dsimp only;have hg:b0v (n+1) [] q=some []:=by
   rw[i0v,s1z];rw[show (decide (([]:List UInt8).length=0)&&(decide ((0:Int)≤q)&&decide (q≤70368744177664)))=true by
    rw[Bool.and_eq_true,Bool.and_eq_true,decide_eq_true_eq,decide_eq_true_eq,decide_eq_true_eq]
    exact ⟨rfl,by omega,by omega⟩,tft]
  have ha:=hs a (by rw[hL];simp);have hat:at? L (0:Int)=some a:=by rw[hL];rfl
  rw[hg,obs,hat,obs,wst n [] a (by simp;omega),obs,tfd,if_pos (by omega)];dsimp only;have hd:List.drop 1 (List.take L.length L)=b::t:=by rw[List.take_length,hL];rfl
  have e22:=join_l22 n (b::t) (by rw[hL] at hl;simp at hl ⊢;omega) (fun s hsm=>hs s (by rw[hL];exact List.mem_cons_of_mem _ hsm)) (b::t) [] (a0b-(b::t).length-1) a 0 rfl rfl (by simp;omega);rw[←lfu (by rw[hL] at hl;simp at hl ⊢;omega)] at e22;rw[hd,List.nil_append,e22,obs,a0y];dsimp only;rw[c0h,obs,hL];simp
def nsec (k m:Nat):Nat:=(k+m-1) / m
theorem d1m (n:Nat) (c:Conf) (left:List (List UInt8)) (k m:Nat) (hm:1≤m) (hm':m≤1000) (hk:k≤100000) (hl:left.length≤1000000) (hs:∀s∈left,s.length≤1000000) :
  c0i (n+3) (c,left) (k:Int) (m:Int)=some ((left.take (nsec k m)).flatten,(c,left.drop (nsec k m))):=by
 have hq:nsec k m≤k+m:=by unfold nsec;exact Nat.le_trans (Nat.div_le_self _ _) (by omega)
 have e1:IntKind.wrap .i64 (Int.tdiv (IntKind.wrap .i64 (IntKind.wrap .i64 ((k:Int)+(m:Int))-1)) (m:Int))=((nsec k m:Nat):Int):=by
  rw[w64 (x:=(k:Int)+(m:Int)) (by omega) (by omega),w64 (x:=(k:Int)+(m:Int)-1) (by omega) (by omega),Int.tdiv_eq_ediv_of_nonneg (by omega)];have:((k:Int)+(m:Int)-1) / (m:Int)=((nsec k m:Nat):Int):=by
   unfold nsec;rw[Int.natCast_ediv];congr 1;omega
  rw[this,w64 (by omega) (by omega)]
 have e2:(if ((left.length:Nat):Int)<((nsec k m:Nat):Int) then ((left.length:Nat):Int) else ((nsec k m:Nat):Int))=((min (nsec k m) left.length:Nat):Int):=by split<;>omega
 have ht:left.take (min (nsec k m) left.length)=left.take (nsec k m):=by
  rcases Nat.le_total (nsec k m) left.length with h | h
  ·rw[Nat.min_eq_left h]
  ·rw[Nat.min_eq_right h,List.take_of_length_le (Nat.le_refl _),List.take_of_length_le h]
 have hd:left.drop (min (nsec k m) left.length)=left.drop (nsec k m):=by
  rcases Nat.le_total (nsec k m) left.length with h | h
  ·rw[Nat.min_eq_left h]
  ·rw[Nat.min_eq_right h,List.drop_of_length_le (Nat.le_refl _),List.drop_of_length_le h]
 rw[x0c];dsimp only;rw[e1,e2,tfd,if_neg (by omega),Int.toNat_natCast];have c1:(decide ((0:Int)≤((min (nsec k m) left.length:Nat):Int))&&decide (((min (nsec k m) left.length:Nat):Int)≤((left.length:Nat):Int)))=true:=by
  rw[Bool.and_eq_true,decide_eq_true_eq,decide_eq_true_eq];omega
 rw[c1,tft,List.drop_zero,ht,join_val n _ (by rw[List.length_take];omega) (fun s hsm=>hs s (List.mem_of_mem_take hsm)),obs,tfd,if_pos (by omega),tfd,if_pos (by omega),List.take_length,hd]
theorem byte_one:∀c:Fin 128,andI .u8 (c.val:Int) 128=0∧orI .u64 0 (shlI .u64 (IntKind.wrap .u64 (n0x .u8 (c.val:Int) 128)) 0)=(c.val:Int):=by decide +kernel
theorem f2n (k:Nat):(if (10:Int)<((k:Nat):Int) then (10:Int) else ((k:Nat):Int))=((min 10 k:Nat):Int):=by split<;>omega
theorem uint_one (n:Nat) {v:Nat} (h:v<128) (t:List UInt8):d0s (n+2) (UInt8.ofNat v::t,false)=some ((v:Int),(t,false)):=by
 obtain ⟨f,hf⟩:∃f,a0b=f+1:=⟨a0b-1,by unfold a0b;omega⟩;have hv:(UInt8.ofNat v).toNat=v:=by simp;omega
 obtain ⟨b1,b2⟩:=byte_one ⟨v,h⟩;dsimp only at b1 b2;rw[l0s,f2n,hf,f0m,tfd,if_pos (by simp;omega),show at? (UInt8.ofNat v::t) (0:Int)=some (UInt8.ofNat v) from rfl,obs];simp only[hv,b1];rw[show IntKind.wrap .i64 ((7:Int)*0)=0 by decide,show IntKind.wrap .i64 ((0:Int)+1)=1 by decide];simp only[b2];simp only[tfd,tfn];rw[if_neg (by omega),if_neg (by omega),if_pos trivial]
 have e:(if (v:Int)=0 then (if (0:Int)<0 then (some (.inl ((UInt8.ofNat v::t,false),())):Option ((Rdr×Unit) ⊕ (Int×Rdr))) else some (.inr ((v:Int),(t,false)))) else some (.inr ((v:Int),(t,false))))=some (.inr ((v:Int),(t,false))):=by
  rw[if_neg (show ¬(0:Int)<0 by omega)];split<;>rfl
 have c2:(1:Int).toNat≤(UInt8.ofNat v::t).length:=by simp
 simp only[if_pos (show (0:Int)≤1 by omega),if_pos c2,List.take_length]
 change a0a (if (v:Int)=0 then (if (0:Int)<0 then (some (.inl ((UInt8.ofNat v::t,false),())):Option ((Rdr×Unit) ⊕ (Int×Rdr))) else some (.inr ((v:Int),(t,false)))) else some (.inr ((v:Int),(t,false)))) _=_
 rw[e];rfl
theorem uint_128 (n:Nat) (t:List UInt8):d0s (n+2) (128::1::t,false)=some (128,(t,false)):=by
 obtain ⟨f,hf⟩:∃f,a0b=f+1+1:=⟨a0b-2,by unfold a0b;omega⟩;rw[l0s,f2n,hf,f0m,tfd,if_pos (by simp;omega),show at? ((128:UInt8)::1::t) (0:Int)=some (128:UInt8) from rfl,obs];rw[show IntKind.wrap .i64 ((7:Int)*0)=0 by decide,show IntKind.wrap .i64 ((0:Int)+1)=1 by decide];rw[tfd,if_neg (by omega),tfd,if_neg (by omega),tfn,tfd,if_neg (by decide),f0m,tfd,if_pos (by simp;omega),show at? ((128:UInt8)::1::t) (1:Int)=some (1:UInt8) from rfl,obs]
 rw[show IntKind.wrap .i64 ((7:Int)*1)=7 by decide,show IntKind.wrap .i64 ((1:Int)+1)=2 by decide];rw[tfd,if_neg (by omega),tfd,if_neg (by omega),tfn,tfd,if_pos (by decide),tfd,if_neg (by decide),tfd,if_pos (by omega),tfd,if_pos (by simp)];rw[show orI .u64 (orI .u64 0 (shlI .u64 (IntKind.wrap .u64 (n0x .u8 (((128:UInt8).toNat:Nat):Int) 128)) 0)) (shlI .u64 (IntKind.wrap .u64 (n0x .u8 (((1:UInt8).toNat:Nat):Int) 128)) 7)=128 by decide +kernel,List.take_length,obs,m0z];rfl
theorem q1b (n:Nat) {v:Nat} (h:v≤128) (t:List UInt8):d0s (n+2) (uvB v++t,false)=some ((v:Int),(t,false)):=by
 rcases Nat.lt_or_ge v 128 with k | k
 ·rw[x0p k];exact uint_one n k t
 ·obtain rfl:v=128:=by omega
  have e:uvB 128=[128,1]:=by rw[l1n (by omega),x0p (by omega)];rfl
  rw[e];exact uint_128 n t
theorem m1q (n:Nat) (s t:List UInt8) {k:Int} (h:k=s.length):e0d (n+1) (s++t,false) k=some (s,(t,false)):=by
 subst h;have e:(s.length:Int).toNat=s.length:=by omega
 rw[n0u,tff,tfd,if_neg (by omega),tfd,if_neg (by simp;omega)];rw[show (decide ((0:Int)≤(s.length:Int))&&decide ((s.length:Int)≤(((s++t).length:Nat):Int)))=true by rw[Bool.and_eq_true,decide_eq_true_eq,decide_eq_true_eq];simp;omega,tft,tfd,if_pos (by omega),tfd,if_pos (by simp),List.take_length,e,List.drop_left];simp
theorem q1q (n:Nat) {s:List UInt8} {long:Int} (h:(s.length:Int)≤long) (hl:long≤128) (t:List UInt8) (ht:t.length≤1000000):h0e (n+3) (txB s++t,false) long=some (s,(t,false)):=by
 rw[v0g];unfold txB;rw[List.append_assoc,q1b n (by omega),obs];dsimp only;have e:(((s++t).length:Nat):Int)=(s.length:Int)+(t.length:Int):=by simp
 rw[tfd,if_neg (by omega),wu64 (x:=long) (by omega) (by omega),tfd,if_neg (by omega),e,wu64 (x:=(s.length:Int)+(t.length:Int)) (by omega) (by omega),tfd,if_neg (by omega),w64 (by omega) (by omega),m1q (n+1) s t rfl];rfl
def r1s (x:Lab):List UInt8:=txB x.1++txB x.2
theorem of_l4 (n:Nat) {l:List Lab} (hl:∀x∈l,x.1.length≤64∧x.2.length≤128):∀(rest pre:List Lab) (f:Nat),l=pre++rest→l.length≤16 →
  r0t (n+4) (f+rest.length+1) ((rest.flatMap r1s,false),pre,(rest.length:Int),())=some (.inl (([],false),(l,()))):=by
 intro rest;induction rest with
 | nil =>
  intro pre f h hn;rw[v0w,tfd,if_neg (by simp)];rw[h,List.append_nil];rfl
 | cons a rest ih =>
  intro pre f h hn;have hlen:=congrArg List.length h;simp at hlen;obtain ⟨a1,a2⟩:=hl a (by rw[h];simp);have hr:∀r:List Lab,(∀x∈r,x.1.length≤64∧x.2.length≤128)→(r.flatMap r1s).length≤200*r.length:=by
   intro r;induction r with
   | nil=>intro _;simp
   | cons y r ihr =>
    intro hy;obtain ⟨b1,b2⟩:=hy y List.mem_cons_self;have:=ihr fun x hx=>hy x (List.mem_cons_of_mem _ hx)
    have e1:=z0u (n:=y.1.length) (by omega);have e2:=u1r (n:=y.2.length) (by omega);rw[List.flatMap_cons,List.length_append,List.length_cons];have e3:(r1s y).length≤200:=by unfold r1s txB;simp only[List.length_append];omega
    omega
  have hq:=hr rest fun x hx=>hl x (by rw[h];simp[hx])
  have t2:(txB a.2).length≤1000:=by
   have:=u1r (n:=a.2.length) (by omega);unfold txB;rw[List.length_append];omega
  rw[show f+(a::rest).length+1=(f+rest.length+1)+1 by simp;omega,v0w,tfd,if_pos (by simp),i0i,obs,tfn,tff,tfd,if_pos (by omega)];have e:(a::rest).flatMap r1s=txB a.1++(txB a.2++rest.flatMap r1s):=by rw[List.flatMap_cons,r1s,List.append_assoc]
  rw[e,q1q (n+1) (by omega) (by omega) _ (by rw[List.length_append];omega),obs];dsimp only;rw[q1q (n+1) (by omega) (by omega) _ (by omega),obs,tfd,if_pos (by omega)];dsimp only;rw[show (((a::rest).length:Nat):Int)-1=((rest.length:Nat):Int) by simp,wu64 (by omega) (by omega),ih (pre++[(a.1,a.2)]) f (by rw[h];simp) hn]
theorem n1y (n:Nat) {l:List Lab} (h:LabOk l):d1w (n+8) (labB l)=some (l,0):=by
 have hn:=h.n1;have e:labB l=uvB l.length++l.flatMap r1s:=rfl;rw[w1y,f0n,obs,e,q1b (n+5) (by omega),obs];dsimp only;have h3:=of_l4 (n+3) (p1g l none h.c) l [] (a0b-l.length-1) rfl hn;rw[←lfu (by omega)] at h3;rw[h3,obs,a0y,i0i,obs];dsimp only;rw[tff,l0t,obs,tfd,if_neg (by simp),n0k (n+1) l,if_pos h,obs];rfl
def Secs (L:List (List UInt8)):Prop:=∀s∈L,s.length=512
theorem y1v:∀ {L:List (List UInt8)},Secs L→L.flatten.length=512*L.length
 | [],_=>rfl
 | s::L,h=>by
  have:=y1v (L:=L) fun x hx=>h x (List.mem_cons_of_mem _ hx)
  rw[List.flatten_cons,List.length_append,this,h s List.mem_cons_self,List.length_cons];omega
theorem Secs.take {L:List (List UInt8)} (h:Secs L) (k:Nat):Secs (L.take k):=fun s hs=>h s (List.mem_of_mem_take hs)
theorem Secs.drop {L:List (List UInt8)} (h:Secs L) (k:Nat):Secs (L.drop k):=fun s hs=>h s (List.mem_of_mem_drop hs)
theorem Secs.le {L:List (List UInt8)} (h:Secs L):∀s∈L,s.length≤1000000:=fun s hs=>by have:=h s hs;omega
def w0x (k m:Nat) (left:List (List UInt8)):List UInt8:=(left.take (nsec k m)).flatten
theorem z1g (k:Nat) {m:Nat} (hm:1≤m):k≤m*nsec k m:=by
 have h1:=Nat.div_add_mod (k+m-1) m;have h2:=Nat.mod_lt (k+m-1) hm;unfold nsec;omega
theorem s1s {k m:Nat} {left:List (List UInt8)} (h:Secs left) (hl:nsec k m≤left.length):(w0x k m left).length=512*nsec k m:=by
 unfold w0x;rw[y1v (h.take _),List.length_take,Nat.min_eq_left hl]
abbrev Plc:=Conf×List (List UInt8)
def evAt (all:List UInt8) (lost room i:Nat):Ev:=(evR (all.drop (32*((lost % room+i) % room)),false)).1
theorem raw_l6 (n:Nat) (p:Plc) (z:Rw) (all:List UInt8) (lost room many:Nat) (mark:Int) (hr:1≤room) (hr':room≤4096) (hm:many≤room) (hall:32*room≤all.length):∀(d f:Nat) (L:List Ev) (k:Nat),k+d=many→L.length=k →
  e0j (n+5) (f+d+1) (p,((lost:Int),(mark,L)),z,all,(room:Int),(many:Int),(k:Int),())=some (.inl (p,(((lost:Int),(mark,L++(List.range' k d).map (evAt all lost room))),(z,())))):=by
 intro d;induction d with
 | zero =>
  intro f L k hk hL;rw[k0z,tfd,if_neg (by omega)];simp
 | succ d ih =>
  intro f L k hk hL;have hq:(lost % room+k) % room<room:=Nat.mod_lt _ hr;have hq0:lost % room<room:=Nat.mod_lt _ hr;have e1:Int.tmod (lost:Int) (room:Int)=((lost % room:Nat):Int):=by rw[Int.tmod_eq_emod_of_nonneg (by omega),Int.natCast_emod]
  have e2:IntKind.wrap .i64 (((lost % room:Nat):Int)+(k:Int))=((lost % room+k:Nat):Int):=by rw[w64 (by omega) (by omega)];omega
  have e3:Int.tmod ((lost % room+k:Nat):Int) (room:Int)=(((lost % room+k) % room:Nat):Int):=by rw[Int.tmod_eq_emod_of_nonneg (by omega),Int.natCast_emod]
  have e4:IntKind.wrap .i64 ((32:Int)*(((lost % room+k) % room:Nat):Int))=((32*((lost % room+k) % room):Nat):Int):=by rw[w64 (by omega) (by omega)];omega
  have e5:IntKind.wrap .i64 ((k:Int)+1)=((k+1:Nat):Int):=by rw[w64 (by omega) (by omega)];omega
  rw[show f+(d+1)+1=(f+d+1)+1 by omega,k0z,tfd,if_pos (by omega),tfd,if_neg (by omega),tfd,if_neg (by omega)];simp only[e1,e2,e3,e4,e5];rw[tfd,if_pos (by omega),tfd,Int.toNat_natCast,if_pos (by omega),f0n,obs,List.take_length,r0h (n+1),obs,tfd,if_pos (by omega)];rw[ih f _ (k+1) (by omega) (by simp[hL]),List.range'_succ,List.map_cons,List.append_assoc];rfl
def v1z (c:Conf) (lost mark many:Int) (all:List UInt8):Rw :=
 if lost<0 then (lost,(mark,[])) else if c.1<many then (lost,(mark,[])) else (lost,(mark,(List.range many.toNat).map (evAt all lost.toNat c.1.toNat)))
theorem g2x (n:Nat) {c:Conf} (h1:1≤c.1) (h2:c.1≤4096) {left:List (List UInt8)} (hs:Secs left) (hl:nsec c.1.toNat 16≤left.length) (hl':left.length≤1000000) (lost mark many:Int) (hm:0≤many) :
  n0m (n+6) (c,left) (lost,(mark,[])) many=some (v1z c lost mark many (w0x c.1.toNat 16 left),(c,left.drop (nsec c.1.toNat 16))):=by
 have hc:c.1=((c.1.toNat:Nat):Int):=by omega
 have ht:=d1m (n+2) c left c.1.toNat 16 (by omega) (by omega) (by omega) hl' hs.le;rw[←hc] at ht;rw[z0f]
 change a0a (c0i (n+5) (c,left) c.1 ((16:Nat):Int)) _=_
 rw[ht,obs];dsimp only;unfold v1z;rw[tfd];by_cases k1:lost<0
 ·rw[if_pos k1,if_pos k1]
 rw[if_neg k1,if_neg k1,tfd];by_cases k2:c.1<many
 ·rw[if_pos k2,if_pos k2]
 rw[if_neg k2,if_neg k2];have hj:=s1s hs hl;have hn:=z1g c.1.toNat (m:=16) (by omega);have:=raw_l6 n (c,left.drop (nsec c.1.toNat 16)) ((0:Int),((0:Int),[])) (w0x c.1.toNat 16 left) lost.toNat c.1.toNat many.toNat mark (by omega) (by omega) (by omega) (by omega) many.toNat (a0b-many.toNat-1) [] 0 (by omega) rfl;rw[←lfu (by omega),←hc,show ((lost.toNat:Nat):Int)=lost by omega,show ((many.toNat:Nat):Int)=many by omega] at this
 change a0a (e0j (n+5) a0b ((c,left.drop (nsec c.1.toNat 16)),(lost,(mark,[])),((0:Int),((0:Int),[])),w0x c.1.toNat 16 left,c.1,many,((0:Nat):Int),())) _=_
 rw[this,obs,a0y,List.nil_append,List.range_eq_range']
def slAt (all:List UInt8) (i:Nat):Slo:=(slR (all.drop (128*i),false)).1
theorem tier_l4 (n:Nat) (p:Plc) (all:List UInt8) (N:Nat) (hN:N≤4096) (hall:128*N≤all.length):∀(d f:Nat) (pre:List Slo),pre.length+d=N →
  d0v (n+5) (f+d+1) (p,all,pre++List.replicate d s0,(N:Int),(pre.length:Int),())=some (.inl (p,(pre++(List.range' pre.length d).map (slAt all),()))):=by
 intro d;induction d with
 | zero =>
  intro f pre hk;rw[j0m,tfd,if_neg (by omega)];simp
 | succ d ih =>
  intro f pre hk;have e4:IntKind.wrap .i64 ((128:Int)*(pre.length:Int))=((128*pre.length:Nat):Int):=by rw[w64 (by omega) (by omega)];omega
  have e5:IntKind.wrap .i64 ((pre.length:Int)+1)=((pre.length+1:Nat):Int):=by rw[w64 (by omega) (by omega)];omega
  have hg:(pre++List.replicate (d+1) s0)[pre.length]? = some s0:=by rw[List.replicate_succ];simp
  rw[show f+(d+1)+1=(f+d+1)+1 by omega,j0m,tfd,if_pos (by omega)];simp only[e4,e5];rw[tfd,if_pos (by omega),tfd,Int.toNat_natCast,if_pos (by omega),List.take_length,c1d n,obs,b1o hg,obs,Int.toNat_natCast,hg,obs];have hset:(pre++List.replicate (d+1) s0).set pre.length (slR (all.drop (128*pre.length),false)).1=(pre++[slAt all pre.length])++List.replicate d s0:=by
   rw[List.replicate_succ];simp[slAt]
  rw[hset];have:=ih f (pre++[slAt all pre.length]) (by simp;omega);rw[show (pre++[slAt all pre.length]).length=pre.length+1 by simp] at this;rw[this,List.range'_succ,List.map_cons,List.append_assoc];rfl
theorem a1o (n:Nat) (c:Conf) {left:List (List UInt8)} (hs:Secs left) (hl':left.length≤1000000) {N:Int} (h0:0≤N) (h1:N≤4096) (hl:nsec N.toNat 4≤left.length) :
  f0t (n+6) (c,left) N=some ((List.range N.toNat).map (slAt (w0x N.toNat 4 left)),(c,left.drop (nsec N.toNat 4))):=by
 obtain ⟨k,rfl⟩:∃k:Nat,N=k:=⟨N.toNat,by omega⟩;rw[Int.toNat_natCast] at hl ⊢;have ht:=d1m (n+2) c left k 4 (by omega) (by omega) (by omega) hl' hs.le;rw[x0b]
 change a0a (c0i (n+5) (c,left) (k:Int) ((4:Nat):Int)) _=_
 rw[ht,obs];dsimp only;have hj:=s1s hs hl;have hn:=z1g k (m:=4) (by omega);have:=tier_l4 n (c,left.drop (nsec k 4)) (w0x k 4 left) k (by omega) (by omega) k (a0b-k-1) [] (by simp);rw[←lfu (by omega),List.nil_append,List.nil_append] at this;rw[show (decide ((0:Int)≤(k:Int))&&(decide ((k:Int)≤(k:Int))&&decide ((k:Int)*120≤(140737488355328:Int))))=true by
  rw[Bool.and_eq_true,Bool.and_eq_true,decide_eq_true_eq,decide_eq_true_eq,decide_eq_true_eq];omega,tft,Int.toNat_natCast,List.length_replicate]
 change a0a (d0v (n+5) a0b ((c,left.drop (nsec k 4)),w0x k 4 left,List.replicate k s0,(k:Int),(([]:List Slo).length:Int),())) _=_
 rw[this,obs,a0y,List.range_eq_range'];rfl
def b1w (N:Int) (left:List (List UInt8)):List Slo:=(List.range N.toNat).map (slAt (w0x N.toNat 4 left))
theorem b2y (n:Nat) {c:Conf} (hc:Rng c) (z:Ser) {left:List (List UInt8)} (hs:Secs left) (hl':left.length≤1000000)
  (hl:nsec c.2.2.1.1.toNat 4+nsec c.2.2.1.2.1.toNat 4+nsec c.2.2.1.2.2.toNat 4≤left.length) (a:List Lab) (b:Int) (r:Rw) (o:Slo) :
  ∃q,a0s (n+6) a0b ((c,left),z,(a,(b,(r,(([],([],[])),o)))),c.2.2.1,(0:Int),()) =
   some (.inl (q,(z,((a,(b,(r,((b1w c.2.2.1.1 left,(b1w c.2.2.1.2.1 (left.drop (nsec c.2.2.1.1.toNat 4)),b1w c.2.2.1.2.2 ((left.drop (nsec c.2.2.1.1.toNat 4)).drop (nsec c.2.2.1.2.1.toNat 4)))),o)))),())))):=by
 obtain ⟨f,hf⟩:∃f,a0b=f+1+1+1+1:=⟨a0b-4,by unfold a0b;omega⟩;have h0:=hc.n0;have h1:=hc.n1;have h2:=hc.n2;have t0:=a1o n c hs hl' (N:=c.2.2.1.1) (by omega) (by omega) (by omega);have t1:=a1o n c (hs.drop (nsec c.2.2.1.1.toNat 4)) (by rw[List.length_drop];omega) (N:=c.2.2.1.2.1) (by omega) (by omega) (by rw[List.length_drop];omega);have t2:=a1o n c ((hs.drop (nsec c.2.2.1.1.toNat 4)).drop (nsec c.2.2.1.2.1.toNat 4)) (by rw[List.length_drop,List.length_drop];omega) (N:=c.2.2.1.2.2) (by omega) (by omega) (by rw[List.length_drop,List.length_drop];omega)
 have e1:IntKind.wrap .i64 ((0:Int)+1)=1:=by decide
 have e2:IntKind.wrap .i64 ((1:Int)+1)=2:=by decide
 have e3:IntKind.wrap .i64 ((2:Int)+1)=3:=by decide
 rw[hf,d0d,tfd,if_pos (by omega),tfd,if_pos rfl,t0,obs,tfd,if_pos rfl,e1];dsimp only;rw[d0d,tfd,if_pos (by omega),tfd,if_neg (by omega),tfd,if_pos rfl,t1,obs,tfd,if_neg (by omega),tfd,if_pos rfl,e2];dsimp only;rw[d0d,tfd,if_pos (by omega),tfd,if_neg (by omega),tfd,if_neg (by omega),tfd,if_pos rfl,t2,obs,tfd,if_neg (by omega),tfd,if_neg (by omega),tfd,if_pos rfl,e3];dsimp only;rw[d0d,tfd,if_neg (by omega)];exact ⟨_,rfl⟩
def v2 (l:List UInt8):Int:=valI (c0w (l.take 2))
def v8 (l:List UInt8):Int:=valI (c0w (l.take 8))
theorem rd2 {l:List UInt8} (h:2≤l.length):rd (l,false) 2=(v2 l,(l.drop 2,false)):=by
 unfold rd;rw[if_neg (by rintro (k | k);cases k;exact absurd h (by dsimp only at k;omega))];rfl
theorem rd8 {l:List UInt8} (h:8≤l.length):rd (l,false) 8=(v8 l,(l.drop 8,false)):=by
 unfold rd;rw[if_neg (by rintro (k | k);cases k;exact absurd h (by dsimp only at k;omega))];rfl
theorem y1k {l:List UInt8} (h:2≤l.length):0≤v2 l∧v2 l≤65535:=by
 have:=rd_range (l,false) 2;rw[rd2 h] at this;have e:(256:Int)^2=65536:=rfl;rw[e] at this;exact ⟨this.1,by have:=this.2;dsimp only at this;omega⟩
theorem v2_of {v:Int} (h0:0≤v) (h1:v≤65535) (t:List UInt8):v2 (toB (beI 2 v)++t)=v:=by
 have:=a1i 2 v t;rw[rd2 (by simp[g0q,c0l])] at this;have e:(256:Int)^2=65536:=rfl;rw[e] at this;have:=congrArg Prod.fst this;dsimp only at this;rw[this,Int.emod_eq_of_lt h0 (by omega)]
theorem f2c (v:Int) (t:List UInt8):v8 (n8B v++t)=IntKind.wrap .u64 v:=by
 have:=rd_n8 v t;rw[rd8 (by simp[w0q])] at this;exact congrArg Prod.fst this
theorem g1e {v:Int} (h:I64 v):IntKind.wrap .i64 (IntKind.wrap .u64 v)=v:=by
 have h1:=IntKind.wrap_u64 v;have h2:=IntKind.wrap_i64 (IntKind.wrap .u64 v);have h3:=h.1;have h4:=h.2;omega
def serV (c:Conf) (ls:List Lab) (h:List UInt8) (t:List (List UInt8)):Ser :=
 (ls,(IntKind.wrap .i64 (v8 (h.drop 322)),(v1z c (IntKind.wrap .i64 (v8 (h.drop 330))) (IntKind.wrap .i64 (v8 (h.drop 338))) (v2 (h.drop 346)) (w0x c.1.toNat 16 t),
  ((b1w c.2.2.1.1 (t.drop (nsec c.1.toNat 16)),(b1w c.2.2.1.2.1 ((t.drop (nsec c.1.toNat 16)).drop (nsec c.2.2.1.1.toNat 4)),b1w c.2.2.1.2.2 (((t.drop (nsec c.1.toNat 16)).drop (nsec c.2.2.1.1.toNat 4)).drop (nsec c.2.2.1.2.1.toNat 4)))),
   (slR ((h.drop 348).take 128,false)).1))))
def need (c:Conf):Nat:=nsec c.1.toNat 16+(nsec c.2.2.1.1.toNat 4+nsec c.2.2.1.2.1.toNat 4+nsec c.2.2.1.2.2.toNat 4)
theorem v1p (n:Nat) (c:Conf) {h:List UInt8} {t:List (List UInt8)} (hh:h.length=512) (ht:Secs t) (hl:t.length≤100000) (hv:v2 h=0∨320<v2 h) :
  e0i (n+9) (c,h::t)=some (ser0,(c,t)):=by
 have hr:=y1k (l:=h) (by omega);have hS:∀s∈h::t,s.length≤1000000:=fun s hs=>by
  rcases List.mem_cons.1 hs with rfl | hs
  ·omega
  ·exact ht.le s hs
 have htk:=d1m (n+5) c (h::t) 1 1 (by omega) (by omega) (by omega) (by simp;omega) hS;rw[show nsec 1 1=1 from rfl] at htk;rw[k0y]
 change a0a (c0i (n+8) (c,h::t) ((1:Nat):Int) ((1:Nat):Int)) _=_
 rw[htk,obs,f0n,obs];dsimp only;rw[show (List.take 1 (h::t)).flatten=h by simp,a0p (n+5) _ 2 2 rfl (by omega) (by omega),rd2 (by omega),obs];dsimp only;rw[w64 (by omega) (by omega),tfd];by_cases k:v2 h=0
 ·rw[if_pos k];rfl
 ·rw[if_neg k,tfd,if_pos (by omega)];rfl
theorem b2z (n:Nat) {c:Conf} (hc:Rng c) {h:List UInt8} {t:List (List UInt8)} (hh:h.length=512) (ht:Secs t) (hl:t.length≤100000) (hN:need c≤t.length) (h0:0<v2 h) (h1:v2 h≤320)
  {ls:List Lab} {e:Int} (hlab:d1w (n+8) ((h.drop 2).take (v2 h).toNat)=some (ls,e)) :
  ∃q,e0i (n+9) (c,h::t)=some (serV c ls h t,q):=by
 unfold need at hN;have hS:∀s∈h::t,s.length≤1000000:=fun s hs=>by
  rcases List.mem_cons.1 hs with rfl | hs
  ·omega
  ·exact ht.le s hs
 have htk:=d1m (n+5) c (h::t) 1 1 (by omega) (by omega) (by omega) (by simp;omega) hS;rw[show nsec 1 1=1 from rfl] at htk;rw[k0y]
 change ∃q,a0a (c0i (n+8) (c,h::t) ((1:Nat):Int) ((1:Nat):Int)) _=_
 rw[htk,obs,f0n,obs];dsimp only;rw[show (List.take 1 (h::t)).flatten=h by simp,a0p (n+5) _ 2 2 rfl (by omega) (by omega),rd2 (by omega),obs];dsimp only;rw[w64 (by omega) (by omega),tfd,if_neg (by omega),tfd,if_neg (by omega)];have e1:h.drop 2=(h.drop 2).take 320++h.drop 322:=by
  have:=(List.take_append_drop 320 (h.drop 2)).symm
  rwa [List.drop_drop,show 2+320=322 from rfl] at this
 have l1:((h.drop 2).take 320).length=320:=by rw[List.length_take,List.length_drop];omega
 have hraw:=m1q (n+7) ((h.drop 2).take 320) (h.drop 322) (k:=320) (by omega);rw[←e1] at hraw;rw[hraw,obs];dsimp only;rw[show (decide ((0:Int)≤v2 h)&&decide (v2 h≤((((h.drop 2).take 320).length:Nat):Int)))=true by rw[Bool.and_eq_true,decide_eq_true_eq,decide_eq_true_eq];omega,tft];rw[List.take_take,Nat.min_eq_left (by omega),List.drop_zero,hlab,obs];dsimp only;rw[a0p (n+5) _ 8 8 rfl (by omega) (by omega),rd8 (by rw[List.length_drop];omega),obs];dsimp only
 rw[List.drop_drop,show 322+8=330 from rfl,a0p (n+5) _ 8 8 rfl (by omega) (by omega),rd8 (by rw[List.length_drop];omega),obs];dsimp only;rw[List.drop_drop,show 330+8=338 from rfl,a0p (n+5) _ 8 8 rfl (by omega) (by omega),rd8 (by rw[List.length_drop];omega),obs];dsimp only;rw[List.drop_drop,show 338+8=346 from rfl,a0p (n+5) _ 2 2 rfl (by omega) (by omega),rd2 (by rw[List.length_drop];omega),obs];dsimp only;have hr2:=y1k (l:=h.drop 346) (by rw[List.length_drop];omega);have e2:h.drop 348=(h.drop 348).take 128++h.drop 476:=by
  have:=(List.take_append_drop 128 (h.drop 348)).symm
  rwa [List.drop_drop,show 348+128=476 from rfl] at this
 have hraw2:=m1q (n+7) ((h.drop 348).take 128) (h.drop 476) (k:=128) (by rw[List.length_take,List.length_drop];omega);rw[←e2] at hraw2;rw[List.drop_drop,show 346+2=348 from rfl,hraw2,obs];dsimp only;rw[c1d (n+3),obs,w64 (x:=v2 (h.drop 346)) (by omega) (by omega)];have hraw:=hc.raw;rw[show (List.drop 1 (h::t))=t from rfl,g2x (n+2) (by omega) (by omega) ht (by omega) (by omega) _ _ _ hr2.1,obs];dsimp only
 obtain ⟨q,hq⟩:=b2y (n+2) hc ser0 (ht.drop (nsec c.1.toNat 16)) (by rw[List.length_drop];omega) (by rw[List.length_drop];omega) ls (IntKind.wrap .i64 (v8 (h.drop 322))) (v1z c (IntKind.wrap .i64 (v8 (h.drop 330))) (IntKind.wrap .i64 (v8 (h.drop 338))) (v2 (h.drop 346)) (w0x c.1.toNat 16 t)) (slR ((h.drop 348).take 128,false)).1;refine ⟨q,?_⟩
 change a0a (a0s (n+2+6) a0b ((c,t.drop (nsec c.1.toNat 16)),ser0,(ls,(IntKind.wrap .i64 (v8 (h.drop 322)),(v1z c (IntKind.wrap .i64 (v8 (h.drop 330))) (IntKind.wrap .i64 (v8 (h.drop 338))) (v2 (h.drop 346)) (w0x c.1.toNat 16 t),(([],([],[])),(slR ((h.drop 348).take 128,false)).1)))),c.2.2.1,(0:Int),())) _=_
 rw[hq,obs,a0y];rfl
end Go.Proofs.YtagnkfbpgkckiaaGreatDoor
namespace Go.Proofs.YtagnkfbpgkckiaaGreatDoor
open Go.Flat Go.Plim
set_option linter.unusedVariables false
def y1f (c:Conf) (s:Trs) (o:Slo) (l:List Ev):Prop :=
 (l=[]∧o=s0∧∀t,FInv c s [] t)∨∃t,EndsAt l t∧FInv c s l t∧o=(t / c.2.1.1,cellOf (win c.2.1.1 l (t / c.2.1.1)))
theorem y1f.fold {c:Conf} {s:Trs} {o:Slo} {l:List Ev} (h:y1f c s o l):FoldOk c s:=by
 rcases h with ⟨_,_,h⟩ | ⟨t,_,h,_⟩
 ·exact (h 0).ok
 ·exact h.ok
def Turn (o:Slo) (i:Int):Prop:=0<o.2.1∧o.1≠i
end Go.Proofs.YtagnkfbpgkckiaaGreatDoor
namespace Go.Proofs.YtagnkfbpgkckiaaGreatDoor
open Go.Flat Go.Plim
set_option linter.unusedVariables false
set_option linter.unusedSimpArgs false
def rawOf (room:Int) (l:List Ev):Rw :=
 (if (l.length:Int)≤room then 0 else (l.length:Int)-room,(if (l.length:Int)≤room then 0 else ((l[l.length-room.toNat-1]?).getD e0).1,l.drop (l.length-room.toNat)))
structure SerInv (c:Conf) (s:Ser) (l:List Ev):Prop where
 lab:LabOk s.1
 len:l.length≤1000000
 raw:s.2.2.1=rawOf c.1 l
 opn:y1f c s.2.2.2.1 s.2.2.2.2 l
 last:(l=[]∧s.2.1 = -1)∨EndsAt l s.2.1
theorem SerInv.foll {c:Conf} {s:Ser} {l:List Ev} (h:SerInv c s l):Foll l:=by
 rcases h.last with ⟨rfl,_⟩ | h
 ·exact Foll.nil
 ·exact h.foll
theorem c1n {l:List Ev} {t:Int} (h:EndsAt l t):∃e,l.getLast? = some e∧e.1=t:=by
 obtain ⟨x,hx,hxt⟩:=h.last;rcases List.eq_nil_or_concat l with rfl | ⟨p,y,rfl⟩
 ·cases hx
 rw[List.concat_eq_append] at *
 have h1:=h.le y (by simp);refine ⟨y,by simp,?_⟩;rcases List.mem_append.1 hx with q | q
 ·have:=(r0y.1 h.foll).2.2 x q y (by simp);omega
 ·simp at q;rw[←q];exact hxt
theorem k2b {l:List Ev} {t u:Int} (h:EndsAt l t) (k:EndsAt l u):t=u:=by
 obtain ⟨e,h1,h2⟩:=c1n h;obtain ⟨e',k1,k2⟩:=c1n k;rw[h1] at k1;simp at k1;rw[←h2,←k2,k1]
theorem SerInv.at_ {c:Conf} {s:Ser} {l:List Ev} (h:SerInv c s l) (hl:l≠[]):EndsAt l s.2.1∧FInv c s.2.2.2.1 l s.2.1∧s.2.2.2.2=(s.2.1 / c.2.1.1,cellOf (win c.2.1.1 l (s.2.1 / c.2.1.1))):=by
 have he:=h.last.resolve_left fun k=>hl k.1
 rcases h.opn with k | ⟨t,k1,k2,k3⟩
 ·exact absurd k.1 hl
 ·have:=k2b he k1;subst this;exact ⟨he,k2,k3⟩
theorem d2z {a b:Int} (ha:1≤a) (hb:1≤b) (hm:b % a=0):0<b / a:=by
 rcases Int.lt_or_le 0 (b / a) with z | z
 ·exact z
 ·exfalso;have e:a*(b / a)=b:=by have:=Int.mul_ediv_add_emod b a;omega
  have:a*(b / a)≤a*0:=Int.mul_le_mul_of_nonneg_left z (by omega);omega
noncomputable def z0i (s:Sta) (l:List Lab):Option Nat:=s.2.2.2.findIdx? fun x=>decide (x.1=l∧LvX s x)
noncomputable def roomV (s:Sta):Option Nat:=s.2.2.2.findIdx? fun x=>decide (¬LvX s x)
noncomputable def lvAt (s:Sta) (i:Nat):Bool:=match s.2.2.2[i]? with | some x=>decide (LvX s x) | none=>false
noncomputable def w0u (s:Sta):List Nat:=(List.range s.2.2.2.length).filter (lvAt s)
theorem k1x {s:Sta} {l:List Lab} {i:Nat}:z0i s l=some i↔∃x,s.2.2.2[i]? = some x∧x.1=l∧LvX s x∧∀j,j<i→∀y,s.2.2.2[j]? = some y→¬(y.1=l∧LvX s y):=by
 unfold z0i;rw[List.findIdx?_eq_some_iff_getElem];constructor
 ·rintro ⟨h,h1,h2⟩;have h1:=of_decide_eq_true h1;refine ⟨_,List.getElem?_eq_getElem h,h1.1,h1.2,fun j hj y hy => ?_⟩;obtain ⟨hjl,e⟩:=List.getElem?_eq_some_iff.1 hy;have:=h2 j hj;rw[e] at this
  simpa using this
 ·rintro ⟨x,hx,h1,h2,h3⟩;obtain ⟨hl,e⟩:=List.getElem?_eq_some_iff.1 hx;refine ⟨hl,by rw[e];exact decide_eq_true ⟨h1,h2⟩,fun j hj => ?_⟩;have:=h3 j hj _ (List.getElem?_eq_getElem (by omega))
  simpa using this
theorem d2u {s:Sta} {l:List Lab}:z0i s l=none↔∀x∈s.2.2.2,¬(x.1=l∧LvX s x):=by
 unfold z0i;rw[List.findIdx?_eq_none_iff];simp
theorem h2w {s:Sta} {i:Nat} {x:Ser} (h:s.2.2.2[i]? = some x):lvAt s i=decide (LvX s x):=by
 unfold lvAt;rw[h]
theorem live_len (s:Sta):(w0u s).length≤s.2.2.2.length:=by
 have:=List.length_filter_le (lvAt s) (List.range s.2.2.2.length)
 simpa [w0u] using this
theorem el_get {l:List Ser} {k:Nat} (h:k<l.length):∃y,l[k]? = some y:=⟨l[k],List.getElem?_eq_getElem h⟩
noncomputable def d2x (s:Sta) (l:List Lab):Int×Int:=if Whole s then (match z0i s l with | some i=>((i:Int),0) | none=>(0,3)) else (0,2)
noncomputable def i2c (s:Sta):List Int:=if Whole s then (w0u s).map Int.ofNat else []
def IsF (s:Sta) (l:List Lab) (k:Nat):Prop:=∃y,s.2.2.2[k]? = some y∧y.1=l∧LvX s y
noncomputable instance (s l k):Decidable (IsF s l k):=Classical.propDecidable _
theorem d2t {s:Sta} {l:List Lab} {m:Nat} (h:IsF s l m) (hn:∀j,j<m→¬IsF s l j):z0i s l=some m:=by
 obtain ⟨y,h1,h2,h3⟩:=h;exact k1x.2 ⟨y,h1,h2,h3,fun j hj z hz k=>hn j hj ⟨z,hz,k.1,k.2⟩⟩
theorem find_no {s:Sta} {l:List Lab} (hn:∀j,j<s.2.2.2.length→¬IsF s l j):z0i s l=none:=by
 refine d2u.2 fun x hx k => ?_
 obtain ⟨i,hi,e⟩:=List.getElem_of_mem hx;exact hn i hi ⟨x,by rw[List.getElem?_eq_getElem hi,e],k.1,k.2⟩
theorem stt_find (n:Nat) {s:Sta} (hw:StaW s) (l:List Lab):m1c (n+10) s l=some (d2x s l):=by
 rw[v1g,v1h (n+5) s,obs,tfn,tfd];unfold d2x;by_cases h:Whole s
 case neg=>rw[if_neg h,if_neg h,if_neg (show ¬((sta0,(2:Int)).2=0) by decide)]
 rw[if_pos h,if_pos h,if_pos rfl];have his:∀k:Nat,k<s.2.2.2.length→(fun y1:Int×Unit=>g0s (n+9) y1.1 s l s) ((k:Int),())=some (decide (IsF s l k)):=by
  intro k hk;obtain ⟨y,hy⟩:=el_get hk;have hm:=(hw.at hy).2;show g0s (n+9) (k:Int) s l s=_;rw[m1b,b1o hy,obs,k1n (n+6) _ _ hm.l,obs,tfd,d1p (n+1) hy hm,obs];by_cases h1:y.1=l
  ·rw[if_pos h1];refine congrArg some (decide_eq_decide.2 ⟨fun k=>⟨y,hy,h1,k⟩,fun ⟨z,z1,z2,z3⟩ => ?_⟩);rw[hy] at z1;cases z1;exact z3
  ·rw[if_neg h1,decide_eq_false (fun q:IsF s l k=>by obtain ⟨z,z1,z2,z3⟩:=q;rw[hy] at z1;cases z1;exact h1 z2)]
 rcases g1i (n+8) s (fun y1:Int×Unit=>g0s (n+9) y1.1 s l s) (fun k=>decide (IsF s l k)) (by have:=h.len;omega) his with ⟨m,q1,q2,q3,q4⟩ | ⟨q1,q2⟩
 ·rw[show (fun y1:Int×Unit=>g0s (n+9) y1.1 s l (s,(0:Int)).1)=fun y1:Int×Unit=>g0s (n+9) y1.1 s l s from rfl,q4,obs,tfd,if_neg (by omega),d2t (of_decide_eq_true q2) (fun j hj=>of_decide_eq_false (q3 j hj))]
 ·rw[show (fun y1:Int×Unit=>g0s (n+9) y1.1 s l (s,(0:Int)).1)=fun y1:Int×Unit=>g0s (n+9) y1.1 s l s from rfl,q2,obs,tfd,if_pos (by decide),find_no (fun j hj=>of_decide_eq_false (q1 j hj))]
theorem lvAt_el {s:Sta} {k:Nat} {y:Ser} (h:s.2.2.2[k]? = some y):decide (LvX s y)=lvAt s k:=(h2w h).symm
theorem b2k (n:Nat) {s:Sta} (hw:StaW s) (hL:s.2.2.2.length≤1000000):∀(d k f:Nat) (out:List Int),k+d=s.2.2.2.length→d<f→out.length≤k →
  j0q (n+7) f (s,out,(s.2.2.2.length:Int),(k:Int),())=some (.inl (out++((List.range' k d).filter (lvAt s)).map Int.ofNat,())):=by
 intro d;induction d with
 | zero =>
  intro k f out hk hf ho;obtain ⟨f,rfl⟩:∃g,f=g+1:=⟨f-1,by omega⟩;rw[v0l,decide_eq_false (by omega),tff];simp
 | succ d ih =>
  intro k f out hk hf ho;obtain ⟨f,rfl⟩:∃g,f=g+1:=⟨f-1,by omega⟩;obtain ⟨y,hy⟩:=el_get (l:=s.2.2.2) (k:=k) (by omega);rw[v0l,decide_eq_true (by omega),tft,d1p n hy (hw.at hy).2,obs,lvAt_el hy,w64 (by omega) (by omega),show ((k:Int)+1)=((k+1:Nat):Int) by omega,List.range'_succ];cases h:lvAt s k
  ·rw[tff,ih (k+1) f out (by omega) (by omega) (by omega),List.filter_cons_of_neg (by simp[h])]
  ·rw[tft,decide_eq_true (by omega),tft,ih (k+1) f _ (by omega) (by omega) (by simp;omega),List.filter_cons_of_pos h];simp
theorem stt_live (n:Nat) {s:Sta} (hw:StaW s):m1a (n+8) s=some (i2c s):=by
 rw[v1f,v1h (n+3) s,obs,tfn,tfd];unfold i2c;by_cases h:Whole s
 case neg=>rw[if_neg h,if_neg h,if_neg (show ¬((sta0,(2:Int)).2=0) by decide)]
 rw[if_pos h,if_pos h,if_pos rfl];have hL:=h.len;have e:j0q (n+7) a0b (s,([]:List Int),(s.2.2.2.length:Int),(0:Int),())=_:=b2k n hw (by omega) s.2.2.2.length 0 a0b [] (by omega) (by unfold a0b;omega) (by simp);simp only;rw[e,obs,a0y];unfold w0u;rw[List.range_eq_range'];rfl
theorem w1u (s:Sta):(i2c s).length≤65536:=by
 unfold i2c;split
 ·rename_i h;have:=h.len;have:=live_len s;simp;omega
 ·simp
theorem j2y (n:Nat) (a b:List Ser) (hL:a.length≤9223372036854775807) (eq:Ser×(Ser×Unit)→Option Bool) (he:∀x∈a,∀y,eq (x,(y,()))=some (decide (x=y))):∀(ra rb pa pb:List Ser) (f:Nat) (ix len:Int),a=pa++ra→b=pb++rb→pa.length=pb.length→ra.length=rb.length→ix=pa.length→len=a.length→ra.length<f →
  b0l n f (b,eq,a,len,ix,())=some (if ra=rb then .inl () else .inr false):=by
 intro ra;induction ra with
 | nil =>
  intro rb pa pb f ix len ha hb hp hr hi hn hf;obtain ⟨f,rfl⟩:∃g,f=g+1:=⟨f-1,by simp at hf;omega⟩;have:rb=[]:=List.length_eq_zero_iff.1 (by simpa using hr.symm);subst this;rw[c0j,decide_eq_false (idxe ha hi hn),tff,if_pos rfl]
 | cons x ra ih =>
  intro rb pa pb f ix len ha hb hp hr hi hn hf;obtain ⟨f,rfl⟩:∃g,f=g+1:=⟨f-1,by simp at hf;omega⟩;cases rb with
  | nil=>simp at hr
  | cons y rb =>
   have hlen:=congrArg List.length ha;simp at hlen;rw[c0j,decide_eq_true (idx ha hi hn),tft,c0f ha hi,obs,c0f hb (by rw[hi,hp]),obs,he x (by rw[ha];simp) y,obs,tfn,tfd,w64 (by omega) (by omega)];by_cases h:x=y
   ·subst h;rw[if_pos rfl,ih rb (pa++[x]) (pb++[x]) f (ix+1) len (idxl ha) (idxl hb) (by simp[hp]) (by simpa using hr) (idxs hi) hn (by simp at hf;omega)];by_cases h2:ra=rb
    ·rw[if_pos h2,if_pos (by rw[h2])]
    ·rw[if_neg h2,if_neg (by intro k;injection k with _ k;exact h2 k)]
   ·rw[if_neg h,if_neg (by intro k;injection k with k _;exact h k)]
theorem y1p (n:Nat) {a:Sta} (ha:StaW a) (b:Sta):d1o (n+5) a b=some (decide (a=b)):=by
 have he:∀x∈a.2.2.2,∀y,(fun y0:Ser×(Ser×Unit)=>d0t (n+4) y0.1 y0.2.1) (x,(y,()))=some (decide (x=y)):=fun x hx y=>w0l (n+1) x y (ha.ser x hx).2
 rw[v1e,confEq,tfd,tfd,tfd,f0s,tfn,tfd];obtain ⟨a1,a2,a3,a4⟩:=a;obtain ⟨b1,b2,b3,b4⟩:=b;simp only at ha he ⊢;by_cases h1:a1=b1
 case neg=>rw[if_neg h1,decide_eq_false (fun k=>h1 (congrArg Prod.fst k))]
 rw[if_pos h1];by_cases h2:a2=b2
 case neg=>rw[if_neg h2,decide_eq_false (fun k=>h2 (congrArg (fun z=>z.2.1) k))]
 rw[if_pos h2];by_cases h3:a3=b3
 case neg=>rw[if_neg h3,decide_eq_false (fun k=>h3 (congrArg (fun z=>z.2.2.1) k))]
 rw[if_pos h3];by_cases h4:(a4.length:Int)=b4.length
 case neg=>rw[if_neg h4,obs,decide_eq_false (fun k=>h4 (congrArg (fun z=>((z.2.2.2.length:Nat):Int)) k))]
 rw[if_pos h4,j2y (n+3) a4 b4 ha.len (fun y0:Ser×(Ser×Unit)=>d0t (n+4) y0.1 y0.2.1) he a4 b4 [] [] a0b 0 _ rfl rfl rfl (by omega) rfl rfl (by have:=ha.len;simp only at this;unfold a0b;omega)];by_cases h5:a4=b4
 ·rw[if_pos h5,decide_eq_true (by rw[h1,h2,h3,h5])];rfl
 ·rw[if_neg h5,decide_eq_false (fun k=>h5 (congrArg (fun z=>z.2.2.2) k))];rfl
theorem ser0_w:SerW ser0:=by
 refine ⟨?_,?_,⟨?_,?_,?_⟩,v1l⟩
 ·unfold I64;simp[ser0]
 ·intro e he;simp[ser0,r0w] at he
 ·intro x hx;simp[ser0] at hx
 ·intro x hx;simp[ser0] at hx
 ·intro x hx;simp[ser0] at hx
theorem o1c {α:Type} {m:Nat} (hm:1≤m) (f:α→List UInt8) (l:List α) (rest:List (List UInt8)):w0x l.length m (cutB m f l++rest)=(cutB m f l).flatten∧(cutB m f l++rest).drop (nsec l.length m)=rest:=by
 have h:(cutB m f l).length=nsec l.length m:=h0a hm f l;exact ⟨by unfold w0x;rw[List.take_left' h],List.drop_left' h⟩
theorem g2p {c:Conf} {r:Rw} (h:RawOk r c.1) (hw:RawW r) (rest:List (List UInt8)) :
  v1z c r.1 r.2.1 (r.2.2.length:Int) (w0x c.1.toNat 16 (cutB 16 i0c (j0l r c.1)++rest))=r:=by
 have h0:=h.l0;have h1:=h.len;have h2:=h.m0;have hrl:=(y0m h).1;have hj:=(o1c (m:=16) (by omega) i0c (j0l r c.1) rest).1;rw[hrl] at hj;obtain ⟨z,hz⟩:=t1n (m:=16) (w:=32) (by omega) (by omega) (f:=i0c) _ (j0l r c.1) (Nat.le_refl _) (fun x _=>q0e x);unfold v1z;rw[if_neg (by omega),if_neg (by omega),Int.toNat_natCast,hj,hz];obtain ⟨a,b,L⟩:=r;dsimp only at *
 congr 2;apply List.ext_getElem?;intro i;rw[List.getElem?_map];rcases Nat.lt_or_ge i L.length with k | k
 ·have hi:L[i]? = some L[i]:=List.getElem?_eq_getElem k;rw[List.getElem?_range k,hi];have hg:=g2k h (i:=i) hi;dsimp only at hg;obtain ⟨t,ht⟩:=j2i (w:=32) (f:=i0c) (l:=j0l (a,b,L) c.1) (fun y _=>q0e y) hg z;have e:32*((a.toNat % c.1.toNat+i) % c.1.toNat)=(a.toNat+i) % c.1.toNat*32:=by rw[Nat.mod_add_mod,Nat.mul_comm]
  show some (evAt _ _ _ _)=_;unfold evAt;rw[e,ht,j2q (hw _ (List.getElem_mem k))]
 ·rw[List.getElem?_eq_none (by simpa using k),List.getElem?_eq_none k];rfl
theorem z0x {l:List Slo} {N:Int} (hN:(l.length:Int)=N) (hw:∀s∈l,SloW s) (rest:List (List UInt8)):b1w N (cutB 4 c0o l++rest)=l∧(cutB 4 c0o l++rest).drop (nsec N.toNat 4)=rest:=by
 subst hN;rw[Int.toNat_natCast];obtain ⟨hj,hd⟩:=o1c (m:=4) (by omega) c0o l rest;refine ⟨?_,hd⟩;obtain ⟨z,hz⟩:=t1n (m:=4) (w:=128) (by omega) (by omega) (f:=c0o) _ l (Nat.le_refl _) (fun x _=>f0r x);unfold b1w;rw[Int.toNat_natCast,hj,hz];apply List.ext_getElem?;intro i;rw[List.getElem?_map];rcases Nat.lt_or_ge i l.length with k | k
 ·have hi:l[i]? = some l[i]:=List.getElem?_eq_getElem k;rw[List.getElem?_range k,hi];obtain ⟨t,ht⟩:=j2i (w:=128) (f:=c0o) (l:=l) (fun y _=>f0r y) hi z;show some (slAt _ _)=_;unfold slAt;rw[Nat.mul_comm,ht,y1t (hw _ (List.getElem_mem k))]
 ·rw[List.getElem?_eq_none (by simpa using k),List.getElem?_eq_none k];rfl
theorem x1m {x:Ser} (hl:(labB x.1).length≤320):∃z,
  g0m x=toB (beI 2 ((labB x.1).length:Int))++(padB (labB x.1) 320++(n8B x.2.1++(n8B x.2.2.1.1++(n8B x.2.2.1.2.1++(toB (beI 2 (x.2.2.1.2.2.length:Int))++(c0o x.2.2.2.2++z))))))
  ∧ (g0m x).drop 2=padB (labB x.1) 320++(n8B x.2.1++(n8B x.2.2.1.1++(n8B x.2.2.1.2.1++(toB (beI 2 (x.2.2.1.2.2.length:Int))++(c0o x.2.2.2.2++z)))))
  ∧ (g0m x).drop 322=n8B x.2.1++(n8B x.2.2.1.1++(n8B x.2.2.1.2.1++(toB (beI 2 (x.2.2.1.2.2.length:Int))++(c0o x.2.2.2.2++z))))
  ∧ (g0m x).drop 330=n8B x.2.2.1.1++(n8B x.2.2.1.2.1++(toB (beI 2 (x.2.2.1.2.2.length:Int))++(c0o x.2.2.2.2++z)))
  ∧ (g0m x).drop 338=n8B x.2.2.1.2.1++(toB (beI 2 (x.2.2.1.2.2.length:Int))++(c0o x.2.2.2.2++z))
  ∧ (g0m x).drop 346=toB (beI 2 (x.2.2.1.2.2.length:Int))++(c0o x.2.2.2.2++z)
  ∧ (g0m x).drop 348=c0o x.2.2.2.2++z:=by
 have e0:g0m x=toB (beI 2 ((labB x.1).length:Int))++(padB (labB x.1) 320++(n8B x.2.1++(n8B x.2.2.1.1++(n8B x.2.2.1.2.1++(toB (beI 2 (x.2.2.1.2.2.length:Int))++(c0o x.2.2.2.2++List.replicate (512-(q0c x).length) 0)))))):=by
  rw[g0m,padB]
  conv=>lhs;arg 1;unfold q0c
  simp only[List.append_assoc]
 have p1:(padB (labB x.1) 320).length=320:=by rw[o0i];omega
 refine ⟨_,e0,?_⟩;have d2:=List.drop_left' (l₂:=padB (labB x.1) 320++(n8B x.2.1++(n8B x.2.2.1.1++(n8B x.2.2.1.2.1++(toB (beI 2 (x.2.2.1.2.2.length:Int))++(c0o x.2.2.2.2++List.replicate (512-(q0c x).length) 0)))))) (p1n ((labB x.1).length:Int));rw[←e0] at d2;have d322:(g0m x).drop (2+320)=n8B x.2.1++(n8B x.2.2.1.1++(n8B x.2.2.1.2.1++(toB (beI 2 (x.2.2.1.2.2.length:Int))++(c0o x.2.2.2.2++List.replicate (512-(q0c x).length) 0)))):=by rw[←List.drop_drop,d2];exact List.drop_left' p1
 have d330:(g0m x).drop (2+320+8)=n8B x.2.2.1.1++(n8B x.2.2.1.2.1++(toB (beI 2 (x.2.2.1.2.2.length:Int))++(c0o x.2.2.2.2++List.replicate (512-(q0c x).length) 0))):=by rw[←List.drop_drop,d322];exact List.drop_left' (w0q _)
 have d338:(g0m x).drop (2+320+8+8)=n8B x.2.2.1.2.1++(toB (beI 2 (x.2.2.1.2.2.length:Int))++(c0o x.2.2.2.2++List.replicate (512-(q0c x).length) 0)):=by rw[←List.drop_drop,d330];exact List.drop_left' (w0q _)
 have d346:(g0m x).drop (2+320+8+8+8)=toB (beI 2 (x.2.2.1.2.2.length:Int))++(c0o x.2.2.2.2++List.replicate (512-(q0c x).length) 0):=by rw[←List.drop_drop,d338];exact List.drop_left' (w0q _)
 have d348:(g0m x).drop (2+320+8+8+8+2)=c0o x.2.2.2.2++List.replicate (512-(q0c x).length) 0:=by rw[←List.drop_drop,d346];exact List.drop_left' (p1n _)
 exact ⟨d2,d322,d330,d338,d346,d348⟩
theorem l1f:zsec.length=512:=List.length_replicate ..
theorem prt16 {x:Int} (h:0≤x):prt x 16=((nsec x.toNat 16:Nat):Int):=by unfold prt nsec;omega
theorem prt4 {x:Int} (h:0≤x):prt x 4=((nsec x.toNat 4:Nat):Int):=by unfold prt nsec;omega
theorem z1h {c:Conf} (hc:Rng c):(plc c).toNat=need c+1:=by
 have hr:=hc.raw;have h0:=hc.n0;have h1:=hc.n1;have h2:=hc.n2;unfold plc need;rw[prt16 (by omega),prt4 (by omega),prt4 (by omega),prt4 (by omega)];omega
theorem r1b (n:Nat) {c:Conf} {x:Ser} (hc:OkC c) (hw:SerW x) (h:x=ser0∨SerOk c x):∃q,e0i (n+9) (c,j0c c x)=some (x,q):=by
 have hp:=p0s hc.rng;have hn:=z1h hc.rng;by_cases h0:x=ser0
 ·unfold j0c;rw[if_pos h0,hn,List.replicate_succ,h0];have hz:v2 zsec=0:=by decide +kernel
  exact ⟨_,v1p n c l1f (fun s hs=>by rw[(List.mem_replicate.1 hs).2,l1f]) (by rw[List.length_replicate];omega) (.inl hz)⟩
 have hs:SerOk c x:=h.resolve_left h0;have hlab:=o1b hs.lab;have hln:=hs.raw.len;have hm:=hs.raw.m1;have hrd:=y0m hs.raw;obtain ⟨z,e0,d2,d322,d330,d338,d346,d348⟩:=x1m hlab;have hlen:1≤(labB x.1).length:=by
  unfold labB;rw[List.length_append,z0u (by have:=hs.lab.n1;omega)];omega
 have hv:v2 (g0m x)=((labB x.1).length:Int):=by rw[e0];exact v2_of (by omega) (by omega) _
 have hlbl:((g0m x).drop 2).take (v2 (g0m x)).toNat=labB x.1:=by
  rw[d2,hv,Int.toNat_natCast,padB,List.append_assoc,List.take_left]
 unfold j0c;rw[if_neg h0];have c1:=h0a (m:=16) (by omega) i0c (j0l x.2.2.1 c.1);have c2:=h0a (m:=4) (by omega) c0o x.2.2.2.1.1;have c3:=h0a (m:=4) (by omega) c0o x.2.2.2.1.2.1;have c4:=h0a (m:=4) (by omega) c0o x.2.2.2.1.2.2;have f0:=hs.fold.n0;have f1:=hs.fold.n1;have f2:=hs.fold.n2;have ht:=u1u hs;have hT:Secs (cutB 16 i0c (j0l x.2.2.1 c.1)++(cutB 4 c0o x.2.2.2.1.1++(cutB 4 c0o x.2.2.2.1.2.1++cutB 4 c0o x.2.2.2.1.2.2))):=by
  intro s hs;rcases List.mem_append.1 hs with q | hs
  ·exact o0p (m:=16) (w:=32) (by omega) (by omega) (fun y _=>q0e y) s q
  rcases List.mem_append.1 hs with q | hs
  ·exact o0p (m:=4) (w:=128) (by omega) (by omega) (fun y _=>f0r y) s q
  rcases List.mem_append.1 hs with q | q
  ·exact o0p (m:=4) (w:=128) (by omega) (by omega) (fun y _=>f0r y) s q
  ·exact o0p (m:=4) (w:=128) (by omega) (by omega) (fun y _=>f0r y) s q
 have hL:(cutB 16 i0c (j0l x.2.2.1 c.1)++(cutB 4 c0o x.2.2.2.1.1++(cutB 4 c0o x.2.2.2.1.2.1++cutB 4 c0o x.2.2.2.1.2.2))).length=need c:=by
  simp only[List.length_append,c1,c2,c3,c4,hrd.1];unfold need nsec;rw[←f0,←f1,←f2];simp only[Int.toNat_natCast];omega
 obtain ⟨q,hq⟩:=b2z n hc.rng (k1w hlab) hT (by omega) (by omega) (by omega) (by omega) (ls:=x.1) (e:=0) (by rw[hlbl];exact n1y n hs.lab);refine ⟨q,?_⟩;rw[hq];have t1:=g2p hs.raw hw.raw (cutB 4 c0o x.2.2.2.1.1++(cutB 4 c0o x.2.2.2.1.2.1++cutB 4 c0o x.2.2.2.1.2.2));have j1:=(o1c (m:=16) (by omega) i0c (j0l x.2.2.1 c.1) (cutB 4 c0o x.2.2.2.1.1++(cutB 4 c0o x.2.2.2.1.2.1++cutB 4 c0o x.2.2.2.1.2.2))).2;rw[hrd.1] at j1;have t2:=z0x f0 hw.trs.a (cutB 4 c0o x.2.2.2.1.2.1++cutB 4 c0o x.2.2.2.1.2.2)
 have t3:=z0x f1 hw.trs.b (cutB 4 c0o x.2.2.2.1.2.2);have t4:=z0x f2 hw.trs.c [];rw[List.append_nil] at t4;have k0:I64 x.2.2.1.1:=by have:=hs.raw.l0;have:=hs.raw.l1;unfold I64;omega
 have k1:I64 x.2.2.1.2.1:=by
  by_cases hz:x.2.2.1.1=0
  ·rw[hs.raw.z hz];unfold I64;omega
  ·obtain ⟨p1,p2,p3⟩:=hs.raw.p hz;have m0:=hs.raw.m0;cases hL:x.2.2.1.2.2 with
   | nil=>rw[hL] at p1;simp at p1;omega
   | cons e L =>
    have:=p3 e (by rw[hL];rfl);have he:=(hw.raw e (by rw[hL];simp)).t;unfold I64 at he ⊢;omega
 have o:=y1t hw.opn [];rw[List.append_nil] at o;unfold serV;rw[d322,d330,d338,d346,d348,f2c,f2c,f2c,v2_of (by omega) (by omega),g1e hw.last,g1e k0,g1e k1,t1,j1,t2.1,t2.2,t3.1,t3.2,t4.1,List.take_left' (f0r _),o]
theorem f1m {c:Conf} {x:Ser} (hc:Rng c) (h:x=ser0∨SerOk c x):Secs (j0c c x)∧(j0c c x).length=(plc c).toNat:=by
 have hn:=z1h hc;unfold j0c;by_cases h0:x=ser0
 ·rw[if_pos h0];exact ⟨fun s hs=>by rw[(List.mem_replicate.1 hs).2,l1f],List.length_replicate ..⟩
 have hs:SerOk c x:=h.resolve_left h0;rw[if_neg h0];have c1:=h0a (m:=16) (by omega) i0c (j0l x.2.2.1 c.1);have c2:=h0a (m:=4) (by omega) c0o x.2.2.2.1.1;have c3:=h0a (m:=4) (by omega) c0o x.2.2.2.1.2.1;have c4:=h0a (m:=4) (by omega) c0o x.2.2.2.1.2.2;have f0:=hs.fold.n0;have f1:=hs.fold.n1;have f2:=hs.fold.n2;have hrd:=y0m hs.raw;constructor
 ·intro s hs';rcases List.mem_cons.1 hs' with q | hs'
  ·rw[q];exact k1w (o1b hs.lab)
  rcases List.mem_append.1 hs' with q | hs'
  ·exact o0p (m:=16) (w:=32) (by omega) (by omega) (fun y _=>q0e y) s q
  rcases List.mem_append.1 hs' with q | hs'
  ·exact o0p (m:=4) (w:=128) (by omega) (by omega) (fun y _=>f0r y) s q
  rcases List.mem_append.1 hs' with q | q
  ·exact o0p (m:=4) (w:=128) (by omega) (by omega) (fun y _=>f0r y) s q
  ·exact o0p (m:=4) (w:=128) (by omega) (by omega) (fun y _=>f0r y) s q
 ·rw[hn,List.length_cons];simp only[List.length_append,c1,c2,c3,c4,hrd.1];unfold need nsec;rw[←f0,←f1,←f2];simp only[Int.toNat_natCast];omega
theorem whole_l (n:Nat) {g:(List UInt8×Unit)→Option Bool} (hg:∀s,g (s,())=some (!(decide ((s.length:Int)=512)))) (l:List (List UInt8)) (hl:l.length≤1000000):∀(rest pre:List (List UInt8)) (f:Nat) (i:Int),l=pre++rest→i=pre.length→rest.length<f →
  (Secs rest∧c0x n f (l,g,(l.length:Int),i,())=some (.inl ()))∨(¬Secs rest∧∃k,0≤k∧c0x n f (l,g,(l.length:Int),i,())=some (.inr k)):=by
 intro rest;induction rest with
 | nil =>
  intro pre f i h hi hf;obtain ⟨f,rfl⟩:=r0x hf;rw[h0y,tfd,if_neg (idxe h hi rfl)];exact .inl ⟨fun s hs=>by simp at hs,rfl⟩
 | cons a rest ih =>
  intro pre f i h hi hf;obtain ⟨f,rfl⟩:=r0x hf;have hlen:=congrArg List.length h;simp at hlen hf;rw[h0y,tfd,if_pos (idx h hi rfl),c0f h hi,obs,hg,obs,tfn,tfd];by_cases ha:(a.length:Int)=512
  ·rw[if_pos ha,w64 (by omega) (by omega)];rcases ih (pre++[a]) f (i+1) (idxl h) (idxs hi) (by omega) with ⟨q1,q2⟩ | ⟨q1,k,q2,q3⟩
   ·refine .inl ⟨fun s hs => ?_,q2⟩;rcases List.mem_cons.1 hs with rfl | hs
    ·omega
    ·exact q1 s hs
   ·exact .inr ⟨fun q=>q1 fun s hs=>q s (List.mem_cons_of_mem _ hs),k,q2,q3⟩
  ·rw[if_neg ha];exact .inr ⟨fun q=>ha (by have:=q a List.mem_cons_self;omega),i,by omega,rfl⟩
theorem e2z (n:Nat) (l:List (List UInt8)) (hl:l.length≤1000000):w0y (n+4) l=some (!(decide (l=[])) && @decide (Secs l) (Classical.propDecidable _)):=by
 rw[i1p,tfd];by_cases h0:l=[]
 ·subst h0;rfl
 have hp:0<(l.length:Int):=by
  cases l with
  | nil=>exact absurd rfl h0
  | cons a t=>simp
 rw[if_pos hp,p0a,s0o,decide_eq_false h0];have hg:∀s:List UInt8,(fun y0:List UInt8×Unit=>l0x (n+3) y0.1) (s,())=some (!(decide ((s.length:Int)=512))):=fun s=>d1f _ s
 rcases whole_l (n+1) (g:=fun y0=>l0x (n+3) y0.1) hg l hl l [] a0b 0 rfl rfl (by unfold a0b;omega) with ⟨q1,q2⟩ | ⟨q1,k,q2,q3⟩
 ·rw[q2,@decide_eq_true _ (Classical.propDecidable _) q1];rfl
 ·rw[q3,@decide_eq_false _ (Classical.propDecidable _) q1,obs,m0z,obs,obs,decide_eq_true q2];rfl
theorem strs_l (n:Nat) (a b:List (List UInt8)) (hL:a.length≤1000000000000):∀(ra rb pa pb:List (List UInt8)) (f:Nat) (i:Int),a=pa++ra→b=pb++rb→pa.length=pb.length→ra.length=rb.length→i=pa.length→ra.length<f →
  g0c n f (a,b,(a.length:Int),i,())=some (if ra=rb then .inl () else .inr false):=by
 intro ra;induction ra with
 | nil =>
  intro rb pa pb f ix ha hb hp hr hi hf;obtain ⟨f,rfl⟩:=r0x hf;have e:rb=[]:=List.length_eq_zero_iff.1 (by simpa using hr.symm);subst e;rw[k0r,decide_eq_false (idxe ha hi rfl),tff,if_pos rfl]
 | cons x ra ih =>
  intro rb pa pb f ix ha hb hp hr hi hf;obtain ⟨f,rfl⟩:=r0x hf;cases rb with
  | nil=>simp at hr
  | cons y rb =>
   have hlen:=congrArg List.length ha;simp at hlen hf;rw[k0r,decide_eq_true (idx ha hi rfl),tft,c0f ha hi,c0f hb (by omega)];simp only[obs];rw[w64 (x:=ix+1) (by omega) (by omega),tfn];by_cases h:x=y
   ·subst h;rw[beq_self_eq_true,tft,ih rb (pa++[x]) (pb++[x]) f (ix+1) (idxl ha) (idxl hb) (by simp;omega) (by simpa using hr) (idxs hi) (by omega)];simp
   ·rw[if_neg (by simp[h]),beq_eq_false_iff_ne.2 h,tff]
theorem strs_val (n:Nat) (a b:List (List UInt8)) (hL:a.length≤1000000000000):i0y (n+1) a b=some (decide (a=b)):=by
 rw[y0h,tfn,tfd];by_cases h:a.length=b.length
 ·rw[if_pos (by omega),strs_l n a b hL a b [] [] a0b 0 rfl rfl rfl h rfl (by unfold a0b;omega),obs];by_cases k:a=b
  ·rw[if_pos k,decide_eq_true k];rfl
  ·rw[if_neg k,decide_eq_false k];rfl
 ·rw[if_neg (by omega),decide_eq_false (fun k=>h (by rw[k]))]
theorem g1r {α β:Type} {m:Nat} (hm:1≤m) (g:α→List β):∀l:List α,(∀x∈l,(g x).length=m)→d0p (l.flatMap g).length m (l.flatMap g)=l.map g
 | [],_=>rfl
 | x::l,h=>by
  have hx:=h x List.mem_cons_self;have ih:=g1r hm g l fun y hy=>h y (List.mem_cons_of_mem _ hy)
  rw[List.flatMap_cons,List.map_cons,←ih];cases hg:g x with
  | nil=>rw[hg] at hx;simp at hx;omega
  | cons y t =>
   rw[hg] at hx;have e:(y::t++l.flatMap g).length=(t++l.flatMap g).length+1:=rfl;rw[e,List.cons_append,c1r,←List.cons_append,List.take_left' hx,List.drop_left' hx,c1q hm (by simp)]
theorem r1d (n:Nat) {c:Conf} (hc:OkC c) (l:List (List UInt8)) (z:Sta):∀(xs:List Ser) (s:Sta),(∀x∈xs,SerW x∧(x=ser0∨SerOk c x))→s.2.2.2.length+xs.length≤10000000 →
  i0p (n+9) ((xs.map (j0c c)).map fun p=>(p,())) (l,z,c,s,())=some (l,z,c,(s.1,(s.2.1,(s.2.2.1,s.2.2.2++xs))),())
 | [],s,_,_=>by rw[List.append_nil];exact d1g _ _
 | x::xs,s,h,hl=>by
  obtain ⟨h1,h2⟩:=h x List.mem_cons_self;obtain ⟨q,hq⟩:=r1b n hc h1 h2;simp only[List.length_cons] at hl;rw[List.map_cons,List.map_cons,b1b,hq,obs,tfd,if_pos (by omega),obs];rw[r1d n hc l z xs _ (fun y hy=>h y (List.mem_cons_of_mem _ hy)) (by simp;omega)];simp
theorem k1u {α β:Type} {m:Nat} {g:α→List β}:∀l:List α,(∀x∈l,(g x).length=m)→(l.flatMap g).length=l.length*m
 | [],_=>by simp
 | x::l,h=>by
  rw[List.flatMap_cons,List.length_append,h x List.mem_cons_self,k1u l fun y hy=>h y (List.mem_cons_of_mem _ hy),List.length_cons,Nat.add_mul];omega
theorem v1b (s:Sta):∃z,t0b s=(f1y++toB (bts s.1))++(n8B s.2.1++(n8B (s.2.2.1+1)++z)):=by
 refine ⟨List.replicate (512-(e1r s).length) 0,?_⟩;unfold t0b padB
 conv=>lhs;arg 1;unfold e1r
 simp only[List.append_assoc]
theorem u0e {s:Sta} (hs:StaOk s):Secs (allB s)∧(allB s).length=1+s.2.2.2.length*(plc s.1).toNat∧∀x∈s.2.2.2,(j0c s.1 x).length=(plc s.1).toNat:=by
 have hr:∀x∈s.2.2.2,x=ser0∨SerOk s.1 x:=fun x hx=>by
  obtain ⟨i,hi⟩:=List.getElem?_of_mem hx;exact f1e (hs.right i x hi)
 have hp:∀x∈s.2.2.2,(j0c s.1 x).length=(plc s.1).toNat:=fun x hx=>(f1m hs.whole.1.rng (hr x hx)).2
 refine ⟨fun y hy => ?_,?_,hp⟩
 ·rcases List.mem_cons.1 hy with rfl | hy
  ·exact b2j s
  ·obtain ⟨x,hx,hxy⟩:=List.mem_flatMap.1 hy;exact (f1m hs.whole.1.rng (hr x hx)).1 y hxy
 ·unfold allB;rw[List.length_cons,k1u _ hp];omega
open Classical in
theorem o1e (n:Nat) {l:List (List UInt8)} (hl:l.length≤1000000):d1x (n+17) l =
  if h:∃a t,l=a::t∧Secs l then
   (let a:=h.choose
    let S:=(a.take 64).drop 8
    @ite _ (OkC (cfg S)∧Full S∧(l.length:Int)-1=(cfg S).2.2.2.1*plc (cfg S)) (Classical.propDecidable _)
     (a0a (i0p (n+16) (((d0p (l.length-1) (plc (cfg S)).toNat (l.drop 1)).map fun p=>(p,()))) (l,sta0,cfg S,(cfg S,(IntKind.wrap .i64 (v8 (a.drop 64)),(IntKind.wrap .i64 (IntKind.wrap .i64 (v8 (a.drop 72))-1),[]))),())) fun r10 =>
      a0a (l0b (n+16) r10.2.2.2.1) fun r11=>tif (!(decide (r11.2=(0:Int)))) (some (sta0,4)) (a0a (i0y (n+16) r10.1 r11.1) fun r12=>tif (!r12) (some (sta0,4)) (some (r10.2.2.2.1,0))))
     (some (sta0,4)))
  else some (sta0,4):=by
 rw[x1a,e2z (n+12) l hl,obs,tfn];by_cases h:∃a t,l=a::t∧Secs l
 case neg =>
  rw[dif_neg h];have:(!(decide (l=[])) && @decide (Secs l) (Classical.propDecidable _))=false:=by
   cases l with
   | nil=>rfl
   | cons a t=>rw[@decide_eq_false _ (Classical.propDecidable _) (fun q=>h ⟨a,t,rfl,q⟩),Bool.and_false]
  rw[this,tff];rfl
 rw[dif_pos h];obtain ⟨t,hlt,hS⟩:=h.choose_spec;generalize h.choose=a at hlt ⊢;have hne:l≠[]:=by rw[hlt];simp
 have ha:a.length=512:=hS a (by rw[hlt];simp);have hat:at? l (0:Int)=some a:=by rw[hlt];rfl
 have hlen:1≤l.length:=by rw[hlt];simp
 rw[decide_eq_false hne,@decide_eq_true _ (Classical.propDecidable _) hS,Bool.not_false,Bool.and_self,tft,hat,obs,
  show (true&&decide ((64:Int)≤((a.length:Nat):Int)))=true by rw[Bool.true_and,decide_eq_true_eq];omega,tft]
 dsimp only;by_cases hr:OkC (cfg ((a.take 64).drop 8))∧Full ((a.take 64).drop 8)
 case neg =>
  rw[read_no (n+12) hr,obs,if_neg (fun q=>hr ⟨q.1,q.2.1⟩)];rfl
 rw[read_yes (n+12) hr.1 hr.2,obs];dsimp only;have hp:=p0s hr.1.rng;have hcap:=hr.1.rng.cap;have m0:0≤(cfg ((a.take 64).drop 8)).2.2.2.1*plc (cfg ((a.take 64).drop 8)):=Int.mul_nonneg (by omega) (by omega);have m1:(cfg ((a.take 64).drop 8)).2.2.2.1*plc (cfg ((a.take 64).drop 8))≤65536*20000:=Int.mul_le_mul hcap.2 hp.2 (by omega) (by omega);rw[decide_eq_true (rfl:(0:Int)=0),Bool.not_true,tff,u1i (n+12) hr.1,obs,w64 (x:=((l.length:Nat):Int)-1) (by omega) (by omega),w64 (x:=(cfg ((a.take 64).drop 8)).2.2.2.1*plc (cfg ((a.take 64).drop 8))) (by omega) (by omega),tfn,tfd]
 by_cases hc:(l.length:Int)-1=(cfg ((a.take 64).drop 8)).2.2.2.1*plc (cfg ((a.take 64).drop 8))
 case neg=>rw[if_neg hc,if_neg (fun q=>hc q.2.2)];rfl
 rw[if_pos hc,if_pos ⟨hr.1,hr.2,hc⟩,obs,tfd,if_pos (by omega),List.take_length,f0n,obs,a0p (n+13) _ 8 8 rfl (by omega) (by omega),rd8 (by rw[List.length_drop];omega),obs];dsimp only;rw[List.drop_drop,show 64+8=72 from rfl,a0p (n+13) _ 8 8 rfl (by omega) (by omega),rd8 (by rw[List.length_drop];omega),obs,tfd,if_pos hlen,obs,List.take_length,y0i];have hpl:plc (cfg ((a.take 64).drop 8))=(((plc (cfg ((a.take 64).drop 8))).toNat:Nat):Int):=by omega
 have hch:=g1s (l.drop 1) (plc (cfg ((a.take 64).drop 8))).toNat (by omega) (by rw[List.length_drop];omega);rw[←hpl,List.length_drop] at hch;rw[hch,obs];rfl
theorem p0g (n:Nat) {s:Sta} (hw:StaW s) (hs:StaOk s) (hl:(allB s).length≤1000000):d1x (n+17) (allB s)=some (s,0):=by
 obtain ⟨h1,h2,h3⟩:=u0e hs;have hc:=hs.whole.1;have hcl:=hs.whole.2;have hp:=p0s hc.rng;have hk:=hs.clock;have hex:∃a t,allB s=a::t∧Secs (allB s):=⟨_,_,rfl,h1⟩;rw[o1e n hl,dif_pos hex];have hch:hex.choose=t0b s:=by
  obtain ⟨t,ht,_⟩:=hex.choose_spec;unfold allB at ht;injection ht with q;exact q.symm
 rw[hch];obtain ⟨z,hz⟩:=v1b s;have l8:f1y.length=8:=rfl;have l56:=w0i s.1;have l64:(f1y++toB (bts s.1)).length=64:=by rw[List.length_append,l8,l56]
 have e1:((t0b s).take 64).drop 8=toB (bts s.1):=by rw[hz,List.take_left' l64,List.drop_left' l8]
 have e2:(t0b s).drop 64=n8B s.2.1++(n8B (s.2.2.1+1)++z):=by rw[hz,List.drop_left' l64]
 have e3:(t0b s).drop 72=n8B (s.2.2.1+1)++z:=by
  rw[show 72=64+8 from rfl,←List.drop_drop,e2,List.drop_left' (w0q _)]
 obtain ⟨c1,c2⟩:=k2o hc.rng;dsimp only
 rw [e1, c1, if_pos ⟨hc, c2, by rw [h2, ← hcl]; have : plc s.1 = (((plc s.1).toNat : Nat) : Int) := by omega
                                rw[Int.natCast_add,Int.natCast_mul,←this];omega⟩,e2,e3,f2c,f2c]
 have i1:IntKind.wrap .i64 (IntKind.wrap .u64 s.2.1)=s.2.1:=by
  obtain ⟨k1,_⟩:=hk;exact g1e (by unfold d1k at k1;unfold I64;omega)
 have i2:IntKind.wrap .i64 (IntKind.wrap .i64 (IntKind.wrap .u64 (s.2.2.1+1))-1)=s.2.2.1:=by
  obtain ⟨_,k,_⟩:=hk;rcases k with k | ⟨k1,k2⟩
  ·rw[k];decide
  ·rw[g1e (by unfold I64;omega),w64 (by omega) (by omega)];omega
 rw[i1,i2];have hd:(allB s).drop 1=s.2.2.2.flatMap (j0c s.1):=rfl;have hdl:(allB s).length-1=(s.2.2.2.flatMap (j0c s.1)).length:=rfl;rw[hd,hdl,g1r (by omega) (j0c s.1) s.2.2.2 h3];have h11:=r1d (n+7) hc (allB s) sta0 s.2.2.2 (s.1,(s.2.1,(s.2.2.1,[]))) (fun x hx=>by
  obtain ⟨i,hi⟩:=List.getElem?_of_mem hx
  exact ⟨(hw.ser x hx).1,f1e (hs.right i x hi)⟩) (by have:=hs.whole.len;dsimp only;rw[List.length_nil];omega)
 rw[h11,obs];dsimp only;rw[List.nil_append]
 change a0a (l0b (n+16) s) _=_
 rw[p1p n hw,if_pos hs,obs];dsimp only;rw[decide_eq_true (rfl:(0:Int)=0),Bool.not_true,tff,strs_val (n+15) _ _ (by omega),decide_eq_true rfl,obs];rfl
end Go.Proofs.YtagnkfbpgkckiaaGreatDoor
