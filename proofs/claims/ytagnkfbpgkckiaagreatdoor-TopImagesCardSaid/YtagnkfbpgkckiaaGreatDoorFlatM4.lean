/-
 The flat reading and its soundness, merged part 4 of 4 (Z, HB, HC, HD, HE).
-/
import Derived.Test.YtagnkfbpgkckiaaGreatDoorFlatM3
import Derived.ChangeArms
import Derived.MakeChecks
import Derived.Shelf.Strings.Builder1
set_option linter.unusedVariables false
set_option linter.unusedSimpArgs false
open Go.RowKit (Below)
namespace Go.Flat
section
open Go.ChangeShapes Go.WideShapes
def litP:(c:Ty)->(DataW Unit->Option (El c))×(List (DataW Unit)->Option (El c))
 | .unit=>(fun _=>none,fun ds=>match ds with | []=>some () | _=>none)
 | .pair a b=>(fun _=>none,fun ds=>match ds with | d::r=>((litP a).1 d).bind fun x=>((litP b).2 r).map fun y=>(x,y) | []=>none)
 | .wrap e=>(fun d=>match d with | .agg ds=>(litP e).2 ds | _=>none,fun ds=>match ds with | [.agg ds']=>(litP e).2 ds' | _=>none)
 | .int k=>(fun d=>match d with | .lit (.int k' n)=>if k=k' then some n else none | _=>none,fun ds=>match ds with | [.lit (.int k' n)]=>if k=k' then some n else none | _=>none)
 | .bool=>(fun d=>match d with | .lit (.bool b)=>some b | _=>none,fun ds=>match ds with | [.lit (.bool b)]=>some b | _=>none)
 | _=>(fun _=>none,fun _=>none)
section
variable {P:Program}{w:World}{F:Fz}
theorem h2l:∀(c:Ty) (d:DataW Unit) (x:El c),(∀a b,c ≠ .pair a b)->c ≠ .unit->(litP c).2 [d]=some x->(litP c).1 d=some x:=by
 intro c d x h1 h2 h;cases c with
 | unit=>exact absurd rfl h2
 | pair a b=>exact absurd rfl (h1 a b)
 | wrap e =>
  simp only[litP] at h ⊢;split at h
  ·rename_i ds' e';injection e' with e' _;subst e';exact h
  ·cases h
 | int k =>
  simp only[litP] at h ⊢;split at h
  ·rename_i k' n e';injection e' with e' _;subst e';exact h
  ·cases h
 | bool =>
  simp only[litP] at h ⊢;split at h
  ·rename_i b e';injection e' with e' _;subst e';exact h
  ·cases h
 | _=>simp[litP] at h
def LitOk (P:Program)(w:World)(F:Fz)(self:TypeId->Ty->Bool):Prop :=
 ∀t c,self t c=true->∀n (cs:List Value) (d:DataW Unit) (p:List MemPlace),DataW.trod (fun _=>()) P w 0 (fun _=>true) false n t cs=some (d,p)->∀x:El c,(litP c).1 d=some x->cs.length=width c/\Rd P c x w F (fun j=>cs[j]?)
def v2p (self:TypeId->Ty->Bool):Prop:=∀t c,self t c=true->(∀a b,c ≠ .pair a b)/\c ≠ .unit
theorem g1b (d:Nat):v2p (readB P d):=by
 intro t c h;cases d with
 | zero=>cases h
 | succ d =>
  constructor
  ·rintro a b rfl;unfold readB at h;split at h<;>simp_all
  ·rintro rfl;unfold readB at h;split at h<;>simp_all
theorem m2r {self:TypeId->Ty->Bool}(hs:v2p self)(ih:LitOk P w F self){n:Nat}:∀(fs:List Field) (e:Ty) (off:Nat) (cs:List Value) (ds:List (DataW Unit)) (x:El e),
  e0t P self fs e off=true->off+width e<=cs.length->ds.length=fs.length->(litP e).2 ds=some x ->
  (∀(i:Nat) f d,fs[i]? = some f->ds[i]? = some d->∃p,DataW.trod (fun _=>()) P w 0 (fun _=>true) false n f.type ((cs.drop f.offset).take (P.cellsOf f.type))=some (d,p)) ->
   Rd P e x w F (fun j=>cs[off+j]?):=by
 intro fs;induction fs with
 | nil =>
  intro e off cs ds x h _ _ _ _;cases e<;>(try (cases h));exact trivial
 | cons f r ihf =>
  intro e off cs ds x h hlen hds hx hf;cases ds with
  | nil=>simp at hds
  | cons d ds =>
  have step:∀(c:Ty) (y:El c),Nat.beq f.offset off=true->r0m P f.type c=true->self f.type c=true->off+width c<=cs.length->(litP c).1 d=some y->Rd P c y w F (fun j=>cs[off+j]?):=by
   intro c y k1 k2 k3 k4 k5;have k1:=q3u k1;obtain ⟨p,hy⟩:=hf 0 f d rfl rfl;rw[k1,f0i k2] at hy;obtain ⟨_,h2⟩:=ih _ _ k3 _ _ _ _ hy y k5;refine Rd.congr c (fun j hj => ?_) h2;rw[List.getElem?_take,q0z hj,q4j]
  cases r with
  | nil =>
   simp only[e0t,q1n] at h;have:ds=[]:=by cases ds with | nil=>rfl | cons a b=>simp at hds
   subst this;obtain ⟨n1,n2⟩:=hs _ _ h.2.2;exact step _ x h.1 h.2.1 h.2.2 hlen (h2l _ d x n1 n2 hx)
  | cons g r =>
   cases e with
   | pair a b =>
    simp only[e0t,q1n] at h;simp only[width] at hlen;simp only[litP] at hx;cases h1:(litP a).1 d with
    | none=>rw[h1] at hx;cases hx
    | some y =>
     rw[h1] at hx;simp only[q3l,q3q] at hx;obtain ⟨z,h2,rfl⟩:=hx;refine ⟨step a y h.1 h.2.1 h.2.2.1 (by omega) h1,?_⟩;have:=ihf b (off+width a) cs ds z h.2.2.2 (by omega) (by simpa using hds) h2 (fun i f' d' hi hd=>hf (i+1) f' d' (by simpa using hi) (by simpa using hd));exact Rd.congr b (fun j _=>by rw[q4l]) this
   | _=>simp[e0t] at h
theorem r2z {self:TypeId->Ty->Bool}(hs:v2p self)(ih:LitOk P w F self){el:TypeId}{m:Nat}:∀(n:Nat) (e:Ty) (i:Nat) (cs:List Value) (ds:List (DataW Unit)) (x:El e),
  f0y P self el n e=true->i*P.cellsOf el+width e<=cs.length->ds.length=n->(litP e).2 ds=some x ->
  (∀(j:Nat) d,ds[j]? = some d->∃p,DataW.trod (fun _=>()) P w 0 (fun _=>true) false m el ((cs.drop ((i+j)*P.cellsOf el)).take (P.cellsOf el))=some (d,p)) ->
   Rd P e x w F (fun j=>cs[i*P.cellsOf el+j]?):=by
 intro n;induction n with
 | zero =>
  intro e i cs ds x h _ _ _ _;cases e<;>(try (cases h));exact trivial
 | succ n ihn =>
  intro e i cs ds x h hlen hds hx hf;cases ds with
  | nil=>simp at hds
  | cons d ds =>
  have step:∀(c:Ty) (y:El c),r0m P el c=true->self el c=true->(litP c).1 d=some y->Rd P c y w F (fun j=>cs[i*P.cellsOf el+j]?):=by
   intro c y k2 k3 k5;obtain ⟨p,hy⟩:=hf 0 d rfl;obtain ⟨_,h2⟩:=ih _ _ k3 _ _ _ _ hy y k5;refine Rd.congr c (fun j hj => ?_) h2;rw[List.getElem?_take,q0z (by rw[f0i k2];exact hj),q4j,Nat.add_zero]
  cases n with
  | zero =>
   simp only[f0y,q1n] at h;have:ds=[]:=by cases ds with | nil=>rfl | cons a b=>simp at hds
   subst this;obtain ⟨n1,n2⟩:=hs _ _ h.2;exact step _ x h.1 h.2 (h2l _ d x n1 n2 hx)
  | succ n =>
   cases e with
   | pair a b =>
    simp only[f0y,q1n] at h;have hc:=f0i h.1;simp only[width] at hlen;simp only[litP] at hx;cases h1:(litP a).1 d with
    | none=>rw[h1] at hx;cases hx
    | some y =>
     rw[h1] at hx;simp only[q3l,q3q] at hx;obtain ⟨z,h2,rfl⟩:=hx;have e1:(i+1)*P.cellsOf el=i*P.cellsOf el+width a:=by rw[Nat.succ_mul,hc]
     refine ⟨step a y h.1 h.2.1 h1,?_⟩;have:=ihn b (i+1) cs ds z h.2.2 (by omega) (by simpa using hds) h2 (fun j d' hd=>by
      have:=hf (j+1) d' (by simpa using hd)
      rwa [show i+(j+1)=i+1+j by omega] at this)
     refine Rd.congr b (fun j _ => ?_) this;rw[e1,q4l]
   | _=>simp[f0y] at h
theorem lit_ok:∀d:Nat,LitOk P w F (readB P d):=by
 intro d;induction d with
 | zero=>intro t c h;cases h
 | succ d ih =>
  intro t c h n cs dd p hy x hx;unfold readB at h;split at h
  ·rename_i hu;obtain ⟨b,rfl,e⟩:=DataW.trod_bool hu hy;injection e with e1 _;subst e1;simp only[litP,Option.some.injEq] at hx;subst hx;exact ⟨rfl,rfl⟩
  ·rename_i k k' hu;obtain ⟨m,rfl,e,_⟩:=DataW.trod_int hu hy;injection e with e1 _;subst e1;have:k=k':=by simpa using h
   subst this;simp only[litP,if_true,Option.some.injEq] at hx;subst hx;exact ⟨rfl,rfl⟩
  ·simp[litP] at hx
  ·simp[litP] at hx
  ·rename_i fs e hu;simp only[q1n] at h;obtain ⟨xs,m,rfl,e1,hl,hxs,hget⟩:=DataW.trod_struct hu hy;injection e1 with e1 _;subst e1;have hcl:cs.length=width e:=by rw[hl,f0i h.1];rfl
   simp only[litP] at hx;refine ⟨hcl,?_⟩;have:=m2r (F:=F) (g1b d) ih (n:=m) fs.toList e 0 cs (xs.map (·.1)) x h.2 (by omega) (by simp[hxs]) hx (fun i f d' hi hd=>by
    have hi':fs[i]? = some f:=by simpa using hi
    have h1:=hget i f hi';rw[q4c] at hd;cases hxi:xs[i]? with
    | none=>rw[hxi] at hd;cases hd
    | some y =>
     rw[hxi] at hd h1;simp only[Option.map_some,Option.some.injEq] at hd;subst hd
     exact ⟨y.2,h1⟩)
   exact Rd.congr e (fun j _=>by rw[Nat.zero_add]) this
  ·rename_i m el e hu;simp only[q1n] at h;obtain ⟨xs,q,rfl,e1,hl,hxs,hget⟩:=DataW.trod_array hu hy;injection e1 with e1 _;subst e1;have hcl:cs.length=width e:=by rw[hl,f0i h.1];rfl
   simp only[litP] at hx;refine ⟨hcl,?_⟩;have:=r2z (F:=F) (g1b d) ih (m:=q) m e 0 cs (xs.map (·.1)) x h.2 (by omega) (by simp[hxs]) hx (fun j d' hd=>by
    rw[q4c] at hd;cases hxi:xs[j]? with
    | none=>rw[hxi] at hd;cases hd
    | some y =>
     have hlt:j<xs.length:=(q3o.1 hxi).1;have h1:=hget j (by omega);rw[hxi] at hd h1;simp only[Option.map_some,Option.some.injEq] at hd;subst hd;rw[Nat.zero_add]
     exact ⟨y.2,h1⟩)
   exact Rd.congr e (fun j _=>by rw[Nat.zero_mul,Nat.zero_add]) this
  ·cases h
theorem e2m:∀ {l:List (Nat×((t:Ty)×El t))} {g:Nat} {x:(t:Ty)×El t},u1c l g=some x->(g,x)∈l:=by
 intro l;induction l with
 | nil=>intro g x h;cases h
 | cons y l ih =>
  intro g x h;obtain ⟨m,z⟩:=y;unfold u1c at h;cases hb:Nat.beq m g with
  | true =>
   rw[hb] at h;simp only[cond_true,Option.some.injEq] at h;subst h;rw[q3u hb];simp
  | false =>
   rw[hb] at h;exact q3h _ (ih h)
theorem laid_one {l:List (String×DataW Unit)}(h:∃ps,DataW.LaidVars P w l ps){nm:String}{d:DataW Unit}(hm:(nm,d)∈l){g:Nat}{t:TypeId}(hg:P.globalNamed nm=some g)(ht:(P.globals[g]?).map (·.type)=some t)
  {c:Ty} {dep:Nat} (hB:readB P dep t c=true) {x:El c} (hx:(litP c).1 d=some x) (hw:0<width c):g<w.heap.size/\Rd P c x w F (mem w g 0):=by
 obtain ⟨ps,h⟩:=h;induction l generalizing ps with
 | nil=>cases hm
 | cons y l ih =>
  obtain ⟨n',d'⟩:=y;obtain ⟨g',t',cs,fuel,p,q,k1,k2,k3,k4,k5,_⟩:=h;rcases q3k.1 hm with e | hm
  ·injection e with e1 e2;subst e1 e2;rw[hg] at k1;injection k1 with k1;subst k1;rw[ht] at k2;injection k2 with k2;subst k2;obtain ⟨z1,z2⟩:=lit_ok (F:=F) dep t c hB fuel cs.toList d p k4 x hx;have hv:∀j,w.cell? ⟨g,j,none⟩=cs[j]? := fun j=>World.var?_cell hg k3 j
   refine ⟨?_,Rd.congr c (fun j _ => ?_) z2⟩
   ·have h0:=hv 0
    have : (0 : Nat) < cs.size := by have : cs.toList.length = cs.size := by simp
                                     omega
    rw[Array.getElem?_eq_getElem this] at h0;unfold World.cell? at h0;split at h0
    ·rename_i hb;exact b0z? hb
    ·cases h0
   ·show w.cell? ⟨g,0+j,none⟩=_;rw[Nat.zero_add,hv j];simp
  ·exact ih hm q k5
end
end
section
open Go.RowKit
theorem f0l (x:List UInt8):(b0u x).length=x.length:=by simp[b0u]
theorem g1r (x:List UInt8):∀u∈b0u x,u.oneCell'=true:=by
 intro u hu;simp only[b0u,q4g] at hu;obtain ⟨c,_,rfl⟩:=hu;rfl
theorem u0m {P:Program}(g o:Nat)(t:TypeId){m:Nat×Nat}:∀(vs:List Value) (i:Nat) (cur:Array Value) (w:World),(m.1=m.2\/m.2<=o)->w.heap[g]? = some (.cells cur t m)->o+i+vs.length<=cur.size->(∀v∈vs,v.oneCell'=true) ->
  (storeCells ⟨g,o,none⟩ vs i).run P w = .ok () (w.setRow g (cur.toList.take (o+i)++vs++cur.toList.drop (o+i+vs.length)).toArray)
 | [],i,cur,w,_,hg,_,_=>by
  simp only[storeCells,q3v,List.length_nil,Nat.add_zero,q4b,Array.toArray_toList];rw[setRow_self w g cur t m hg];rfl
 | v::rest,i,cur,w,hm,hg,hl,h1=>by
  have hi:o+i<cur.size:=by simp at hl;omega
  have hadd:(⟨g,o,none⟩:Addr).add i=⟨g,o+i,none⟩:=by unfold Addr.add;split<;>simp_all
  have hcell:w.cell? ⟨g,o+i,none⟩=some cur[o+i]:=by simp[World.cell?,hg,hi]
  have hfro:w.frozen? ⟨g,o+i,none⟩=false:=by
   obtain ⟨lo,hi2⟩:=m;simp only[World.frozen?,hg];have hno:¬(lo<=o+i/\o+i<hi2):=by
    rcases hm with h | h<;>simp only at h<;>omega
   by_cases h2:lo<=o+i
   ·have h3:¬(o+i<hi2):=fun k=>hno ⟨h2,k⟩
    simp[h3]
   ·simp[h2]
  have hst:(store ((⟨g,o,none⟩:Addr).add i) v).run P w = .ok () (w.setRow g (cur.setIfInBounds (o+i) v)):=by
   rw[hadd,run_store P w _ v _ (h1 v (by simp)),hcell];simp[hfro,setCell_eq_setRow w g (o+i) cur t m v hg]
  have ih:=u0m (P:=P) g o t (m:=m) rest (i+1) (cur.setIfInBounds (o+i) v) (w.setRow g (cur.setIfInBounds (o+i) v)) hm (setRow_heap w g cur _ t _ hg) (by simp at hl ⊢;omega) (fun x hx=>h1 x (by simp[hx]));simp only[storeCells,Sem.run_bind,hst,Result.andThen_ok,ih,setRow_setRow];congr 3;have e:=list_seg_step cur.toList (o+i) v rest (by simp at hl ⊢;omega)
  simpa [Array.toList_setIfInBounds,q4l] using e
section
variable {P:Program}{W:World}{e:TypeId}
theorem s1g {ts:Array TypeId}{t ty:TypeId}{i:TypeInfo}(ht0:ts[0]? = some t)(ht1:m1g P ts)(ht:P.underlying t=some (.slice e))(hi:P.info? e=some i)(hz:i.zero=some (.int .u8 0))(hs:i.size=1)(hb:i.bytes=1)
  {x y:List UInt8} {s u:Value} (hrow:RowU e u x W) (hsrc:Src P W 1 s y.length (b0u y)) (hlen:x.length+y.length<=140737488355328) :
  ∃u' W',(Builtin.append_ ts ty #[u,s]).run P W = .ok u' W'/\RowU e u' (x++y) W'/\W.grownBy W' u.ownBlock/\(u'.ownBlock=u.ownBlock\/u'.ownBlock=some W.heap.size)/\∃a n c,u' = .slice a n c:=by
 have hsrc':Src P W i.size s y.length (b0u y):=by rw[hs];exact hsrc
 have hmax:x.length+y.length<=maxLen:=by simp only[maxLen];omega
 have grow:∀ {a:Option Addr} {cap:Nat},u = .slice a x.length cap->cap<x.length+y.length ->
   (∀w':World,(∀q,w'.cell? q=W.cell? q)->(Builtin.firstCells i.size x.length (.slice a x.length cap)).run P w' = .ok (b0u x).toArray w') ->
   ∃u' W',(Builtin.append_ ts ty #[u,s]).run P W = .ok u' W'/\RowU e u' (x++y) W'/\W.grownBy W' u.ownBlock/\(u'.ownBlock=u.ownBlock\/u'.ownBlock=some W.heap.size)/\∃a n c,u' = .slice a n c:=by
  intro a cap hu hcap hold;have hrun:=b1n (ty:=ty) ht0 ht1 ht hi hz hsrc' hcap (by rw[hb];decide) (by rw[hb];omega) hold;rw[<-hu] at hrun;have hge:=grownCap_ge W (x.length+y.length) cap e;have hlist:(i0w W (Value.int IntKind.u8 0).cells (b0u x) (b0u y) (x.length+y.length) cap e).toList=b0u x++(b0u y++(Builtin.zeroCells (Value.int IntKind.u8 0).cells (grownCap W (x.length+y.length) cap e-(x.length+y.length))).toList):=by
   simp[i0w]
  have hz1:(Value.int IntKind.u8 0).cells.size=1:=rfl;refine ⟨_,_,hrun,.inr ⟨W.heap.size,_,_,(0,0),by rw[q3b],u0p W.drew _,.inl rfl,by rw[q3b];exact hge,⟨grownCap_le_maxLen W _ cap e hmax,by omega⟩,?_,?_⟩,
   ⟨rfl,rfl,rfl,by simp,fun k hk _=>p0j W.drew _ k hk⟩,.inr rfl,_,_,_,rfl⟩
  ·have hzl:(Builtin.zeroCells (Value.int IntKind.u8 0).cells (grownCap W (x.length+y.length) cap e-(x.length+y.length))).toList.length=grownCap W (x.length+y.length) cap e-(x.length+y.length):=by
    rw[Array.length_toList,size_zeroCells,hz1,Nat.mul_one]
   have hsz:=congrArg List.length hlist;rw[q3b,q3b,f0l,f0l,hzl] at hsz;rw[<-Array.length_toList (xs:=i0w W (Value.int IntKind.u8 0).cells (b0u x) (b0u y) (x.length+y.length) cap e),hsz];omega
  ·rw[hlist,<-q3e];have:(x++y).length=(b0u x++b0u y).length:=by simp[f0l]
   rw[this,List.take_left];simp[b0u]
 rcases hrow with ⟨rfl,rfl⟩ | ⟨g,cap,cur,m,rfl,hg,hmk,hxc,hcm,hcs,htake⟩
 ·rcases Nat.eq_zero_or_pos y.length with hy | hy
  ·have hyn:y=[]:=q3n hy;subst hyn;have hrun:=p0t (P:=P) (W:=W) (W':=W) (ty:=ty) (n:=0) (cap:=0) (b:=none) ht0 ht1 ht hi hsrc' (by simp) (fun _ h=>by cases h) (fun _=>rfl);exact ⟨_,W,hrun,.inl ⟨rfl,rfl⟩,⟨rfl,rfl,rfl,q3c _,fun _ _ _=>rfl⟩,.inl rfl,_,_,_,rfl⟩
  ·refine grow (a:=none) (cap:=0) rfl (by simpa using hy) (fun w' _=>by simp[Builtin.firstCells,b0u])
 ·by_cases hfit:x.length+y.length<=cap
  ·have hle:x.length+(b0u y).length<=cur.size:=by rw[f0l,hcs];exact hfit
   have hst:=u0m (P:=P) g x.length e (b0u y) 0 cur W hmk hg (by simpa using hle) (g1r y);simp only[Nat.add_zero] at hst;have hrun:=p0t (P:=P) (W:=W) (ty:=ty) (n:=x.length) (cap:=cap) (b:=some ⟨g,0,none⟩) ht0 ht1 ht hi hsrc' hfit
    (fun ad hd=>by injection hd with hd;subst hd;rw[hs,addr_add,Nat.zero_add,Nat.mul_one];exact hst) (fun h=>by cases h)
   refine ⟨_,_,hrun,.inr ⟨g,cap,_,m,by rw[q3b],setRow_heap W g cur _ e _ hg,hmk.imp id (fun q=>by rw[q3b];omega),by rw[q3b];exact hfit,hcm,?_,?_⟩,
    ⟨rfl,rfl,rfl,by simp,fun k _ hk=>setRow_other W g k _ (fun q=>hk (by rw[q];rfl))⟩,.inl rfl,_,_,_,rfl⟩
   ·simp only[List.size_toArray,q3b,q3x,q3j,Array.length_toList];omega
   ·rw[htake];have:(x++y).length=(b0u x++b0u y).length:=by simp[f0l]
    rw[this,List.take_left];simp[b0u]
  ·refine grow (a:=some ⟨g,0,none⟩) (cap:=cap) rfl (by omega) (fun w' hw' => ?_);refine run_firstCells_some w' i.size _ ⟨g,0,none⟩ _ cap (b0u x) (by rw[hs,f0l,Nat.mul_one]) (fun j v hv => ?_);rw[hw',addr_add,Nat.zero_add,cell_of_row W g j cur e m hg];rw[<-htake,List.getElem?_take] at hv;split at hv
   ·rw[<-q3w];exact hv
   ·cases hv
theorem u0h {ops:Array Oper}{rest:List Oper}{o:Oper}{a:Act}{Q:Exit->Act->World->Prop}(hgd:o.guard=none)(p q:Operand){ts:Array TypeId}{t:TypeId}{i:TypeInfo}
  (ho:o.op = .call { callee := .builtin .append,args := #[p,q],argTypes:=ts }) (ht0:ts[0]? = some t) (ht1:m1g P ts) (ht:P.underlying t=some (.slice e)) (hi:P.info? e=some i) (hz:i.zero=some (.int .u8 0)) (hs:i.size=1) (hb:i.bytes=1)
  {x y:List UInt8} {s u:Value} (hp:a.eval p=u) (hq:a.eval q=s) (hrow:RowU e u x W) (hsrc:Src P W 1 s y.length (b0u y)) (hlen:x.length+y.length<=140737488355328)
  (hK:∀b n c W',RowU e (.slice b n c) (x++y) W'->W.grownBy W' u.ownBlock->((Value.slice b n c).ownBlock=u.ownBlock\/(Value.slice b n c).ownBlock=some W.heap.size)->wpList P ops Q rest (a.put o.dst (.slice b n c)) W') :
  wpList P ops Q (o::rest) a W:=by
 refine wpList_plain hgd fun K hK' => ?_
 obtain ⟨u',W',hr,h2,h3,h4,b,n,c,rfl⟩:=s1g (ty:=o.type) ht0 ht1 ht hi hz hs hb hrow hsrc hlen;unfold Oper.wp execOp;simp only[ho,resolve,invoke,builtin,Sem.run_bind,Sem.run_pure,Result.andThen_ok,List.map_toArray,q4i,List.map_nil,hp,hq,hr];exact hK' _ _ (hK b n c W' h2 h3 h4)
end
end
section
open Go.Shelf Go.RowKit Go.Proofs
structure But (O:Nat->Prop)(w w':World):Prop where
 os:w'.os=w.os
 tape:w'.tape=w.tape
 output:w'.output=w.output
 size:w.heap.size<=w'.heap.size
 same:∀k,k<w.heap.size->¬O k->w'.heap[k]? = w.heap[k]?
theorem But.refl (O:Nat->Prop)(w:World):But O w w:=⟨rfl,rfl,rfl,q3c _,fun _ _ _=>rfl⟩
theorem But.grown {O:Nat->Prop}{w w1 w2:World}{row:Option Nat}(h:But O w w1)(hg:w1.grownBy w2 row)(hr:∀k,row=some k->O k\/w.heap.size<=k):But O w w2 :=
 ⟨hg.os.trans h.os,hg.tape.trans h.tape,hg.output.trans h.output,q4n h.size hg.size,fun k hk ho=>(hg.block k (q4o hk h.size) (fun e=>by
  rcases hr k e.symm with q | q
  ·exact ho q
  ·omega)).trans (h.same k hk ho)⟩
theorem But.alloc {O:Nat->Prop}{w w1:World}(h:But O w w1)(o:Obj):But O w (w1.alloc o):=h.grown (World.grownBy_alloc w1 o none) (fun _ e=>by cases e)
theorem But.setCell {O:Nat->Prop}{w w1:World}(h:But O w w1){b:Nat}(hb:O b\/w.heap.size<=b)(j:Nat)(v:Value):But O w (w1.setCell ⟨b,j,none⟩ v) :=
 h.grown (row:=some b) ⟨rfl,rfl,rfl,by simp[World.setCell],fun k _ hk=>Below.heap_setCell _ _ _ _ (fun e=>hk (by simp[e]))⟩ (fun k e=>by cases e;exact hb)
theorem But.drew {O:Nat->Prop}{w w1:World}(h:But O w w1):But O w w1.drew:=⟨h.os,h.tape,h.output,h.size,h.same⟩
variable {P:Program}{ρ:Ren}
structure BldL (P:Program)(ρ:Ren):Prop where
 mixed:P.follows .mixedOrders=true
 e240:∀args w,(callFunc (ρ.f 240) args).run P w = .ok (.enter (ρ.f 240) args) w
 copy:∀(b:Nat) (p v:Value) (w:World),(p = .pointer none\/p = .pointer (some ⟨b,0,none⟩))->w.heap[b]? = some (.cells #[p,v] (ρ.t 72) (0,0)) ->
  Calls P (ρ.f 240) #[.pointer (some ⟨b,0,none⟩)] w fun e w'=>e = .returned (.tuple #[])/\w'.heap[b]? = some (.cells #[.pointer (some ⟨b,0,none⟩),v] (ρ.t 72) (0,0))/\But (· = b) w w'/\w'.heap.size=w.heap.size
 t3:P.underlying (ρ.t 3)=some (TypeDesc.int IntKind.i64)
 a3:∀w,(isAgg (ρ.t 3)).run P w = .ok false w
 z3:∀w,(Go.sizeOf (ρ.t 3)).run P w = .ok 1 w
 v3:∀w,(zeroValue (ρ.t 3)).run P w = .ok (Value.int IntKind.i64 0) w
 t4:P.underlying (ρ.t 4)=some (TypeDesc.bool)
 a4:∀w,(isAgg (ρ.t 4)).run P w = .ok false w
 z4:∀w,(Go.sizeOf (ρ.t 4)).run P w = .ok 1 w
 v4:∀w,(zeroValue (ρ.t 4)).run P w = .ok (Value.bool false) w
 t5:P.underlying (ρ.t 5)=some (TypeDesc.int IntKind.u8)
 a5:∀w,(isAgg (ρ.t 5)).run P w = .ok false w
 z5:∀w,(Go.sizeOf (ρ.t 5)).run P w = .ok 1 w
 v5:∀w,(zeroValue (ρ.t 5)).run P w = .ok (Value.int IntKind.u8 0) w
 t9:P.underlying (ρ.t 9)=some (TypeDesc.string)
 a9:∀w,(isAgg (ρ.t 9)).run P w = .ok false w
 z9:∀w,(Go.sizeOf (ρ.t 9)).run P w = .ok 1 w
 v9:∀w,(zeroValue (ρ.t 9)).run P w = .ok (Value.string { data := #[] }) w
 t37:P.underlying (ρ.t 37)=some (TypeDesc.slice (ρ.t 5))
 a37:∀w,(isAgg (ρ.t 37)).run P w = .ok false w
 z37:∀w,(Go.sizeOf (ρ.t 37)).run P w = .ok 1 w
 v37:∀w,(zeroValue (ρ.t 37)).run P w = .ok (Value.slice none 0 0) w
 t70:P.underlying (ρ.t 70)=some (TypeDesc.pointer (ρ.t 72))
 a70:∀w,(isAgg (ρ.t 70)).run P w = .ok false w
 z70:∀w,(Go.sizeOf (ρ.t 70)).run P w = .ok 1 w
 v70:∀w,(zeroValue (ρ.t 70)).run P w = .ok (Value.pointer none) w
 t72 : P.underlying (ρ.t 72) = some (TypeDesc.struct #[{ name := "addr", type := ρ.t 70, offset := 0, embedded := false, tag := "", pkgPath := "strings", byteOffset := 0 }, { name := "buf", type := ρ.t 37, offset := 1, embedded := false, tag := "", pkgPath := "strings", byteOffset := 8 }])
 a72:∀w,(isAgg (ρ.t 72)).run P w = .ok true w
 z72:∀w,(Go.sizeOf (ρ.t 72)).run P w = .ok 2 w
 v72:∀w,(zeroValue (ρ.t 72)).run P w = .ok (Value.agg #[Value.pointer none,Value.slice none 0 0]) w
theorem bld_copy {P:Program}{F T:Nat}(h1:∀(b:Nat) (w:World),w.cell? ⟨b,0,none⟩=some (.pointer (some ⟨b,0,none⟩))->Calls P F #[.pointer (some ⟨b,0,none⟩)] w fun e w'=>e = .returned (.tuple #[])/\w'=w)
  (h2:∀(b:Nat) (w:World),w.cell? ⟨b,0,none⟩=some (.pointer none)->w.shape? b=some (T,2)->w.frozen? ⟨b,0,none⟩=false->Calls P F #[.pointer (some ⟨b,0,none⟩)] w fun e w'=>e = .returned (.tuple #[])/\w'=w.setCell ⟨b,0,none⟩ (.pointer (some ⟨b,0,none⟩)))
  (b:Nat) (p v:Value) (w:World) (hp:p = .pointer none\/p = .pointer (some ⟨b,0,none⟩)) (hb:w.heap[b]? = some (.cells #[p,v] T (0,0))) :
  Calls P F #[.pointer (some ⟨b,0,none⟩)] w fun e w'=>e = .returned (.tuple #[])/\w'.heap[b]? = some (.cells #[.pointer (some ⟨b,0,none⟩),v] T (0,0))/\But (· = b) w w'/\w'.heap.size=w.heap.size:=by
 have c0:w.cell? ⟨b,0,none⟩=some p:=by rw[Lib.cell_of_heap hb];rfl
 rcases hp with rfl | rfl
 ·refine (h2 b w c0 (by simp[World.shape?,hb]) (Lib.frozen_of_heap hb 0)).mono ?_;rintro e w' ⟨rfl,rfl⟩;refine ⟨rfl,?_,(But.refl (· = b) w).setCell (.inl rfl) 0 _,by simp[World.setCell]⟩;simp[World.setCell,Array.getElem?_modify,hb]
 ·refine (h1 b w c0).mono ?_;rintro e w' ⟨rfl,rfl⟩;exact ⟨rfl,hb,But.refl _ _,rfl⟩
theorem u2w {T e b:Nat}{x:List UInt8}{v v':Value}{w w1 w2:World}{bs:List Nat}(hTe:T≠e)(hb1:w1.heap[b]? = some (.cells #[.pointer (some ⟨b,0,none⟩),v] T (0,0)))(hbut:But (· = b) w w1)
  (hrow:RowU e v' x w2) (hg:w1.grownBy w2 v.ownBlock) (hat:v'.ownBlock=v.ownBlock\/v'.ownBlock=some w1.heap.size) (hne:v.ownBlock≠some b) (hbs:∀k,v.ownBlock=some k->k∈bs) (hbb:b∈bs) :
  ∃bs',m0o T e b x (w2.setCell ⟨b,1,none⟩ v') bs'/\(∀k∈bs',k∈bs\/w.heap.size<=k)/\But (· ∈ bs) w (w2.setCell ⟨b,1,none⟩ v'):=by
 have hlt:b<w1.heap.size:=b0z? hb1;have hb2:w2.heap[b]? = some (.cells #[.pointer (some ⟨b,0,none⟩),v] T (0,0)):=by
  rw[hg.block b hlt (fun e=>hne e.symm)];exact hb1
 have hne':v'.ownBlock≠some b:=by
  rcases hat with h | h
  ·rw[h];exact hne
  ·rw[h];intro e;injection e with e;omega
 have hb3:(w2.setCell ⟨b,1,none⟩ v').heap[b]? = some (.cells #[.pointer (some ⟨b,0,none⟩),v'] T (0,0)):=by
  simp[World.setCell,Array.getElem?_modify,hb2]
 have hother:∀g,g≠b->(w2.setCell ⟨b,1,none⟩ v').heap[g]? = w2.heap[g]? := fun g hgb=>Below.heap_setCell _ _ _ _ (fun e=>hgb (by simp[e]))
 have hloc:∀k,v'.ownBlock=some k->k∈bs\/w.heap.size<=k:=by
  intro k hk;rcases hat with h | h
  ·exact .inl (hbs k (h ▸ hk))
  ·rw[h] at hk;injection hk with hk;have:=hbut.size;exact .inr (by omega)
 have hkeep:But (· ∈ bs) w (w2.setCell ⟨b,1,none⟩ v'):=by
  have h1:But (· ∈ bs) w w1:=⟨hbut.os,hbut.tape,hbut.output,hbut.size,fun k hk ho=>hbut.same k hk (fun e=>ho (e ▸ hbb))⟩;exact (h1.grown hg (fun k hk => .inl (hbs k hk))).setCell (.inl hbb) 1 _
 refine ⟨b::v'.ownBlock.toList,⟨_,_,.inr rfl,hb3,hrow.kept fun g hgo=>hother g (fun e=>hne' (by rw[hgo,e])),hne',rfl⟩,fun k hk => ?_,hkeep⟩;rcases q3k.1 hk with rfl | hk
 ·exact .inl hbb
 ·exact hloc k (by simpa using hk)
set_option maxHeartbeats 2000000 in
set_option maxRecDepth 100000 in
theorem hb_WriteByte (L:BldL P ρ)(X:Builder.Extra P ρ)(f167:P.funcs[ρ.f 167]? = some (Body.n167 ρ)){b:Nat}{x:List UInt8}{bs:List Nat}(c:UInt8)(w:World)(h:m0o (ρ.t 72) (ρ.t 5) b x w bs)(hlen:x.length+1<=140737488355328) :
  Calls P (ρ.f 167) #[.pointer (some ⟨b,0,none⟩),.int .u8 (c.toNat:Int)] w fun e w'=>e = .returned .nilIface/\∃bs',m0o (ρ.t 72) (ρ.t 5) b (x++[c]) w' bs'/\(∀k∈bs',k∈bs\/w.heap.size<=k)/\But (· ∈ bs) w w':=by
 obtain ⟨p,v,hp,hbk0,hrow0,hne0,rfl⟩:=h;obtain ⟨i0,hi,hz0,hz1,hz2⟩:=info_parts X.infoByte;have mixed:=L.mixed;have t72:=L.t72;have a72:=L.a72;have z72:=L.z72;have v72:=L.v72;have u72:=run_underlying L.t72;have t70:=L.t70;have a70:=L.a70;have z70:=L.z70;have v70:=L.v70;have u70:=run_underlying L.t70;have t5:=L.t5;have a5:=L.a5;have z5:=L.z5;have v5:=L.v5;have u5:=run_underlying L.t5;have t37:=L.t37;have a37:=L.a37;have z37:=L.z37;have v37:=L.v37;have u37:=run_underlying L.t37;have t9:=L.t9;have a9:=L.a9;have z9:=L.z9;have v9:=L.v9;have u9:=run_underlying L.t9
 have t4:=L.t4;have a4:=L.a4;have z4:=L.z4;have v4:=L.v4;have u4:=run_underlying L.t4;have e240:=L.e240
 go_enter f167,Body.n167_ntmps ρ
 go_wp2_with (go_at_fn (ρ.f 240);refine (L.copy b p v w hp hbk0).mono ?_)
 rintro e w1 ⟨rfl,hbk,hbut,-⟩;have hlt:b<w1.heap.size:=b0z? hbk;have hrow:RowU (ρ.t 5) v x w1:=hrow0.kept fun g hg=>hbut.same g (hrow0.lt g hg) (fun e=>hne0 (by rw[hg,e]))
 have c0:w1.cell? ⟨b,0,none⟩=some (.pointer (some ⟨b,0,none⟩)):=by rw[Lib.cell_of_heap hbk];rfl
 have c1:w1.cell? ⟨b,1,none⟩=some v:=by rw[Lib.cell_of_heap hbk];rfl
 have hsrc:Src P (w1.alloc (.cells #[.int .u8 (c.toNat:Int)] (ρ.t 5))) 1 (.slice (some ⟨w1.heap.size,0,none⟩) 1 1) 1 (b0u [c]) :=
  ⟨rfl,fun w' hw'=>run_firstCells_some w' 1 1 ⟨w1.heap.size,0,none⟩ 1 1 (b0u [c]) rfl (fun j u hu=>by
   rw[hw',addr_add,Nat.zero_add,cell_of_row _ _ j _ _ _ (u0p w1 _)]
   match j,hu with
   | 0,hu=>simpa [b0u] using hu),rfl,g1r [c]⟩
 go_wp2_with (at_builtin;refine u0h (x:=x) (y:=[c]) rfl _ _ rfl rfl (fun u hu => .inl ⟨_,by cases hu;exact L.t37⟩) L.t37 hi hz0 hz1 hz2 rfl rfl (hrow.kept fun g hg=>p0j _ _ g (hrow.lt g hg)) hsrc (by simpa using hlen) ?_)
 intro a n q w2 hown' hgrow hat;have hbka:(w1.alloc (.cells #[.int .u8 (c.toNat:Int)] (ρ.t 5))).heap[b]? = some (.cells #[.pointer (some ⟨b,0,none⟩),v] (ρ.t 72) (0,0)):=(p0j _ _ b hlt).trans hbk;have hb2:w2.heap[b]? = some (.cells #[.pointer (some ⟨b,0,none⟩),v] (ρ.t 72) (0,0)):=by
  rw[hgrow.block b (b0z? hbka) (fun e=>hne0 e.symm)];exact hbka
 have d0:w2.cell? ⟨b,0,none⟩=some (.pointer (some ⟨b,0,none⟩)):=by rw[Lib.cell_of_heap hb2];rfl
 have d1:w2.cell? ⟨b,1,none⟩=some v:=by rw[Lib.cell_of_heap hb2];rfl
 have f1:w2.frozen? ⟨b,1,none⟩=false:=Lib.frozen_of_heap hb2 1
 go_wp2
 go_ret
 exact ⟨rfl,u2w X.neB5 hbka (hbut.alloc _) hown' hgrow (by rw[World.size_alloc];exact hat) hne0 (fun k hk=>by simp[hk]) (by simp)⟩
set_option maxHeartbeats 2000000 in
set_option maxRecDepth 100000 in
theorem n1u (L:BldL P ρ)(X:Builder.Extra P ρ)(f166:P.funcs[ρ.f 166]? = some (Body.n166 ρ)){b:Nat}{x:List UInt8}{bs:List Nat}(s:List UInt8)(w:World)(h:m0o (ρ.t 72) (ρ.t 5) b x w bs)(hlen:x.length+s.length<=140737488355328) :
  Calls P (ρ.f 166) #[.pointer (some ⟨b,0,none⟩),.string ⟨s.toArray⟩] w fun e w'=>e = .returned (.tuple #[.int .i64 s.length,.nilIface])/\∃bs',m0o (ρ.t 72) (ρ.t 5) b (x++s) w' bs'/\(∀k∈bs',k∈bs\/w.heap.size<=k)/\But (· ∈ bs) w w':=by
 obtain ⟨p,v,hp,hbk0,hrow0,hne0,rfl⟩:=h;obtain ⟨i0,hi,hz0,hz1,hz2⟩:=info_parts X.infoByte;have mixed:=L.mixed;have t72:=L.t72;have a72:=L.a72;have z72:=L.z72;have v72:=L.v72;have u72:=run_underlying L.t72;have t70:=L.t70;have a70:=L.a70;have z70:=L.z70;have v70:=L.v70;have u70:=run_underlying L.t70;have t37:=L.t37;have a37:=L.a37;have z37:=L.z37;have v37:=L.v37;have u37:=run_underlying L.t37;have t3:=L.t3;have a3:=L.a3;have z3:=L.z3;have v3:=L.v3;have u3:=run_underlying L.t3;have t9:=L.t9;have a9:=L.a9;have z9:=L.z9;have v9:=L.v9;have u9:=run_underlying L.t9
 have t4:=L.t4;have a4:=L.a4;have z4:=L.z4;have v4:=L.v4;have u4:=run_underlying L.t4;have t5:=X.t5;have a5:=X.a5;have z5:=X.z5;have v5:=X.v5;have u5:=run_underlying X.t5;have e240:=L.e240
 go_enter f166,Body.n166_ntmps ρ
 go_wp2_with (go_at_fn (ρ.f 240);refine (L.copy b p v w hp hbk0).mono ?_)
 rintro e w1 ⟨rfl,hbk,hbut,-⟩;have hlt:b<w1.heap.size:=b0z? hbk;have hrow:RowU (ρ.t 5) v x w1:=hrow0.kept fun g hg=>hbut.same g (hrow0.lt g hg) (fun e=>hne0 (by rw[hg,e]))
 have c0:w1.cell? ⟨b,0,none⟩=some (.pointer (some ⟨b,0,none⟩)):=by rw[Lib.cell_of_heap hbk];rfl
 have c1:w1.cell? ⟨b,1,none⟩=some v:=by rw[Lib.cell_of_heap hbk];rfl
 go_wp2_with (at_builtin;refine u0h (x:=x) (y:=s) rfl _ _ rfl rfl (fun u hu => .inr (by cases hu;exact L.t9)) L.t37 hi hz0 hz1 hz2 rfl rfl hrow (o2v s) hlen ?_)
 intro a n q w2 hown' hgrow hat;have hb2:w2.heap[b]? = some (.cells #[.pointer (some ⟨b,0,none⟩),v] (ρ.t 72) (0,0)):=by
  rw[hgrow.block b hlt (fun e=>hne0 e.symm)];exact hbk
 have d0:w2.cell? ⟨b,0,none⟩=some (.pointer (some ⟨b,0,none⟩)):=by rw[Lib.cell_of_heap hb2];rfl
 have d1:w2.cell? ⟨b,1,none⟩=some v:=by rw[Lib.cell_of_heap hb2];rfl
 have f1:w2.frozen? ⟨b,1,none⟩=false:=Lib.frozen_of_heap hb2 1
 go_wp2
 go_ret2
 exact ⟨rfl,u2w X.neB5 hbk hbut hown' hgrow hat hne0 (fun k hk=>by simp[hk]) (by simp)⟩
theorem But.freeze {O:Nat->Prop}{w w1:World}(h:But O w w1){g:Nat}(hg:O g)(n:Nat):But O w (w1.freeze ⟨g,0,none⟩ n):=by
 unfold World.freeze;split
 ·exact h
 ·exact ⟨h.os,h.tape,h.output,by simpa using h.size,fun k hk ho=>by
   simp only[Array.getElem?_modify];rw[q0n (fun q=>ho (by rw[<-q];exact hg))]
   exact h.same k hk ho⟩
theorem n2l {T e b g cap:Nat}{x:List UInt8}{p:Value}{cur:Array Value}{m:Nat×Nat}{w:World}(hp:p = .pointer none\/p = .pointer (some ⟨b,0,none⟩))(hb:w.heap[b]? = some (.cells #[p,.slice (some ⟨g,0,none⟩) x.length cap] T (0,0)))
  (hg:w.heap[g]? = some (.cells cur e m)) (k0:m.1=m.2\/m.2<=x.length) (k1:x.length<=cap) (k2:cap<=maxLen/\0<cap) (k3:cur.size=cap) (k5:cur.toList.take x.length=b0u x) (hne:g≠b) (h0:x.length≠0) :
  m0o T e b x (w.drew.freeze ⟨g,0,none⟩ x.length) (b::(Value.slice (some ⟨g,0,none⟩) x.length cap).ownBlock.toList):=by
 refine ⟨p,_,hp,?_,.inr ⟨g,cap,cur,(if m.1==m.2 then (0,0+x.length) else (min m.1 0,max m.2 (0+x.length))),rfl,?_,?_,k1,k2,k3,k5⟩,by simp[Value.ownBlock,hne],rfl⟩
 ·unfold World.freeze;rw[q0n h0];simp only[Array.getElem?_modify];rw[q0n hne];exact hb
 ·unfold World.freeze;rw[q0n h0];simp only[Array.getElem?_modify,if_true];have:w.drew.heap[g]? = some (.cells cur e m):=hg;rw[this];rfl
 ·right;split
  ·simp
  ·rename_i hq;have:m.1≠m.2:=by simpa using hq
   rcases k0 with k0 | k0
   ·exact absurd k0 this
   ·simp only;omega
set_option maxHeartbeats 2000000 in
set_option maxRecDepth 100000 in
theorem s2i (L:Lays.n169 P ρ)(X:Builder.Extra P ρ){b:Nat}{x:List UInt8}{bs:List Nat}(w:World)(h:m0o (ρ.t 72) (ρ.t 5) b x w bs) :
  Calls P (ρ.f 169) #[.pointer (some ⟨b,0,none⟩)] w fun e w'=>e = .returned (.string ⟨x.toArray⟩)/\m0o (ρ.t 72) (ρ.t 5) b x w' bs/\But (· ∈ bs) w w':=by
 have hall:=h;obtain ⟨p,v,hp,hbk,hrow,hne,rfl⟩:=h;have mixed:=L.mixed;rcases hrow with ⟨rfl,rfl⟩ | ⟨g,cap,cur,m,rfl,hg,k0,k1,k2,k3,k5⟩
 ·have hUS:=Any.unsafeString_none L X;have c1:w.drew.cell? ⟨b,1,none⟩=some (.slice none 0 0):=by
   have:w.drew.heap[b]? = some (.cells #[p,.slice none 0 0] (ρ.t 72) (0,0)):=hbk;rw[Lib.cell_of_heap this];rfl
  have hSD:(Builtin.unsafeSliceData_ #[(ρ.t 37)] (ρ.t 127) #[.slice none 0 0]).run P w.drew = .ok (.pointer none) w.drew:=rfl;have t72:=L.t72;have a72:=L.a72;have z72:=L.z72;have v72:=L.v72;have u72:=run_underlying L.t72;have t70:=L.t70;have a70:=L.a70;have z70:=L.z70;have v70:=L.v70;have u70:=run_underlying L.t70;have t37:=L.t37;have a37:=L.a37;have z37:=L.z37;have v37:=L.v37;have u37:=run_underlying L.t37;have t127:=L.t127;have a127:=L.a127;have z127:=L.z127;have v127:=L.v127;have u127:=run_underlying L.t127
  have t3:=L.t3;have a3:=L.a3;have z3:=L.z3;have v3:=L.v3;have u3:=run_underlying L.t3;have t9:=L.t9;have a9:=L.a9;have z9:=L.z9;have v9:=L.v9;have u9:=run_underlying L.t9;have t5:=X.t5;have a5:=X.a5;have z5:=X.z5;have v5:=X.v5;have u5:=run_underlying X.t5
  go_enter L.f169,Body.n169_ntmps ρ
  go_wp2
  go_region_o
  all_goals (go_wp2;go_ret;exact ⟨rfl,hall.same (fun _ _=>rfl),(But.refl _ w).drew⟩)
 ·by_cases h0:x=[]
  ·subst h0;refine (Any.Builder_String_room L X w.heap.size b g cap p w (by omega) hbk).mono ?_;rintro e w' ⟨rfl,hB⟩;exact ⟨rfl,hall.same (fun c hc=>hB.block c (hall.lt c hc)),hB.os,hB.tape,hB.output,hB.size,fun k hk _=>hB.block k hk⟩
  have hfz:=n2l hp hbk hg k0 k1 k2 k3 k5 (by simpa [Value.ownBlock] using hne) (fun q=>h0 (q3n q));have c1:w.drew.cell? ⟨b,1,none⟩=some (.slice (some ⟨g,0,none⟩) x.length cap):=by
   have:w.drew.heap[b]? = some (.cells #[p,.slice (some ⟨g,0,none⟩) x.length cap] (ρ.t 72) (0,0)):=hbk;rw[Lib.cell_of_heap this];rfl
  have hSD:(Builtin.unsafeSliceData_ #[(ρ.t 37)] (ρ.t 127) #[.slice (some ⟨g,0,none⟩) x.length cap]).run P w.drew = .ok (.pointer (some ⟨g,0,none⟩)) w.drew :=
   Lib.run_unsafeSliceData_row _ _ _ _ _ _ (by omega)
  have hUS:(Builtin.unsafeString_ #[(ρ.t 127),(ρ.t 3)] (ρ.t 9) #[.pointer (some ⟨g,0,none⟩),.int .i64 x.length]).run P w.drew = .ok (.string ⟨x.toArray⟩) (w.drew.freeze ⟨g,0,none⟩ x.length):=by
   refine Lib.run_unsafeString_row w.drew (ρ.t 127) (ρ.t 3) (ρ.t 9) (ρ.t 5) L.t127 X.cellsByte g cur.size (by have hg':w.drew.heap[g]? = some (.cells cur (ρ.t 5) m):=hg;simp[World.shape?,hg']) x h0 (by omega) (by have:=k2.1;unfold maxLen at this;omega) ?_;intro j y hy;have hg':w.drew.heap[g]? = some (.cells cur (ρ.t 5) m):=hg;rw[addr_add,Nat.zero_add,cell_of_row _ g j cur _ _ hg',<-q3w];have h1:(cur.toList.take x.length)[j]? = some (.int .u8 y.toNat):=by rw[k5];simp[b0u,hy]
   rw[List.getElem?_take] at h1;split at h1
   ·exact h1
   ·cases h1
  have t72:=L.t72;have a72:=L.a72;have z72:=L.z72;have v72:=L.v72;have u72:=run_underlying L.t72;have t70:=L.t70;have a70:=L.a70;have z70:=L.z70;have v70:=L.v70;have u70:=run_underlying L.t70;have t37:=L.t37;have a37:=L.a37;have z37:=L.z37;have v37:=L.v37;have u37:=run_underlying L.t37;have t127:=L.t127;have a127:=L.a127;have z127:=L.z127;have v127:=L.v127;have u127:=run_underlying L.t127;have t3:=L.t3;have a3:=L.a3;have z3:=L.z3;have v3:=L.v3;have u3:=run_underlying L.t3;have t9:=L.t9;have a9:=L.a9;have z9:=L.z9;have v9:=L.v9;have u9:=run_underlying L.t9
  have t5:=X.t5;have a5:=X.a5;have z5:=X.z5;have v5:=X.v5;have u5:=run_underlying X.t5
  go_enter L.f169,Body.n169_ntmps ρ
  go_wp2
  go_region_o
  all_goals (go_wp2;go_ret;exact ⟨rfl,hfz,((But.refl _ w).drew).freeze (by simp[Value.ownBlock]) _⟩)
set_option maxHeartbeats 1000000 in
set_option maxRecDepth 100000 in
theorem hb_Len (L:BldL P ρ)(f170:P.funcs[ρ.f 170]? = some (Body.n170 ρ)){b:Nat}{x:List UInt8}{bs:List Nat}(w:World)(h:m0o (ρ.t 72) (ρ.t 5) b x w bs) :
  Calls P (ρ.f 170) #[.pointer (some ⟨b,0,none⟩)] w fun e w'=>e = .returned (.int .i64 x.length)/\w'=w:=by
 obtain ⟨p,v,hp,hbk,hrow,hne,rfl⟩:=h;obtain ⟨ao,cap,rfl⟩:∃ao cap,v = .slice ao x.length cap:=by
  rcases hrow with ⟨rfl,rfl⟩ | ⟨g,cap,cur,m,rfl,_⟩
  ·exact ⟨none,0,rfl⟩
  ·exact ⟨_,_,rfl⟩
 have c1:w.cell? ⟨b,1,none⟩=some (.slice ao x.length cap):=by rw[Lib.cell_of_heap hbk];rfl
 have mixed:=L.mixed;have t72:=L.t72;have a72:=L.a72;have z72:=L.z72;have v72:=L.v72;have u72:=run_underlying L.t72;have t70:=L.t70;have a70:=L.a70;have z70:=L.z70;have v70:=L.v70;have u70:=run_underlying L.t70;have t37:=L.t37;have a37:=L.a37;have z37:=L.z37;have v37:=L.v37;have u37:=run_underlying L.t37;have t3:=L.t3;have a3:=L.a3;have z3:=L.z3;have v3:=L.v3;have u3:=run_underlying L.t3
 go_enter f170,Body.n170_ntmps ρ
 go_wp2
 go_ret
 exact ⟨rfl,rfl⟩
structure GrowL (P:Program)(ρ:Ren):Prop where
 f165:P.funcs[ρ.f 165]? = some (Body.n165 ρ)
 f241:P.funcs[ρ.f 241]? = some (Body.n241 ρ)
 e241:∀args w,(callFunc (ρ.f 241) args).run P w = .ok (.enter (ρ.f 241) args) w
 room:∀(n:Nat) (w:World),n<=281474976710656->∃cs:Array Value,(callFunc (ρ.f 277) #[.int .i64 n]).run P w = .ok (.value (.slice (some ⟨w.heap.size,0,none⟩) n cs.size)) (w.drew.drew.alloc (.cells cs (ρ.t 5)))/\n<=cs.size/\(n<=maxLen->cs.size<=maxLen)
theorem room_run {P:Program}{ps:Array TypeId}{t e:TypeId}(ht:P.underlying t=some (.slice e)){F:Nat}(hF:∀n w v w',(Extern.BytealgMakeNoZero.makeNoZero ps #[t] #[.int .i64 n]).run P w = .ok v w'->(callFunc F #[.int .i64 n]).run P w = .ok (.value v) w')(n:Nat)(w:World)(hn:n<=281474976710656) :
  ∃cs:Array Value,(callFunc F #[.int .i64 n]).run P w = .ok (.value (.slice (some ⟨w.heap.size,0,none⟩) n cs.size)) (w.drew.drew.alloc (.cells cs e))/\n<=cs.size/\(n<=maxLen->cs.size<=maxLen):=by
 obtain ⟨cs,hrun,h1,h2⟩:=Lib.run_makeNoZero (P:=P) w ps t e ht n hn;exact ⟨cs,hF _ _ _ _ hrun,h1,h2⟩
theorem u2x {T e b:Nat}{ao:Option Addr}{cap:Nat}{cs:Array Value}{w W:World}(hbk:w.heap[b]? = some (.cells #[.pointer (some ⟨b,0,none⟩),.slice ao 0 cap] T (0,0)))(hne:T≠e)(h0:0<cs.size)(hm:cs.size<=maxLen)
  (hh:W.heap=((w.setCell ⟨b,1,none⟩ (.slice (some ⟨w.heap.size,0,none⟩) 0 cs.size)).alloc (.cells cs e)).heap) (ho:W.os=w.os) (ht:W.tape=w.tape) (hp:W.output=w.output) :
  ∃bs,m0o T e b [] W bs/\(∀k∈bs,k=b\/w.heap.size<=k)/\But (· = b) w W:=by
 have hlt:b<w.heap.size:=b0z? hbk;have hsz:(w.setCell ⟨b,1,none⟩ (.slice (some ⟨w.heap.size,0,none⟩) 0 cs.size)).heap.size=w.heap.size:=by simp[World.setCell]
 refine ⟨b::(Value.slice (some ⟨w.heap.size,0,none⟩) 0 cs.size).ownBlock.toList,⟨.pointer (some ⟨b,0,none⟩),.slice (some ⟨w.heap.size,0,none⟩) 0 cs.size,.inr rfl,?_,.inr ⟨w.heap.size,cs.size,cs,(0,0),rfl,?_,.inl rfl,Nat.zero_le _,⟨hm,h0⟩,rfl,by simp[b0u]⟩,?_,rfl⟩,fun k hk => ?_,ho,ht,hp,?_,fun k hk hn => ?_⟩
 ·rw[hh,p0j _ _ b (by rw[hsz];exact hlt)];simp[World.setCell,Array.getElem?_modify,hbk]
 ·rw[hh];have:=u0p (w.setCell ⟨b,1,none⟩ (.slice (some ⟨w.heap.size,0,none⟩) 0 cs.size)) (.cells cs e)
  rwa [hsz] at this
 ·simp[Value.ownBlock];omega
 ·rcases q3k.1 hk with rfl | hk
  ·exact .inl rfl
  ·have:k=w.heap.size:=by simpa [Value.ownBlock,eq_comm] using hk
   exact .inr (by omega)
 ·rw[hh];simp[World.setCell]
 ·rw[hh,p0j _ _ k (by rw[hsz];exact hk)];exact Below.heap_setCell _ _ _ _ (fun e=>hn (by simp[e]))
set_option maxHeartbeats 2000000 in
set_option maxRecDepth 100000 in
theorem hb_grow (L:BldL P ρ)(X:Builder.Extra P ρ)(K:GrowL P ρ){b cap n:Nat}{ao:Option Addr}(w:World)(hbk:w.heap[b]? = some (.cells #[.pointer (some ⟨b,0,none⟩),.slice ao 0 cap] (ρ.t 72) (0,0)))(hcn:cap<n)(hn:n<=70368744177664) :
  Calls P (ρ.f 241) #[.pointer (some ⟨b,0,none⟩),.int .i64 n] w fun e w'=>e = .returned (.tuple #[])/\∃bs,m0o (ρ.t 72) (ρ.t 5) b [] w' bs/\(∀k∈bs,k=b\/w.heap.size<=k)/\But (· = b) w w':=by
 obtain ⟨cs,hrun,hle,hmax⟩:=K.room (2*cap+n) w.drew (by omega);have e1:((2*cap+n:Nat):Int)=2*(cap:Int)+(n:Int):=by omega
 have e2:IntKind.i64.wrap (IntKind.i64.wrap (2*(cap:Int))+(n:Int))=((2*cap+n:Nat):Int):=by
  rw[IntKind.wrap_i64,IntKind.wrap_i64];omega
 have hcallB:(callFunc (ρ.f 277) #[.int .i64 (IntKind.i64.wrap (IntKind.i64.wrap (2*(cap:Int))+(n:Int)))]).run P w.drew = .ok (.value (.slice (some ⟨w.drew.heap.size,0,none⟩) (2*cap+n) cs.size)) (w.drew.drew.drew.alloc (.cells cs (ρ.t 5))):=by rw[e2];exact hrun
 have hcall:(callFunc (ρ.f 277) #[.int .i64 (2*(cap:Int)+(n:Int))]).run P w.drew = .ok (.value (.slice (some ⟨w.drew.heap.size,0,none⟩) (2*cap+n) cs.size)) (w.drew.drew.drew.alloc (.cells cs (ρ.t 5))):=by rw[<-e1];exact hrun
 clear hrun e1 e2;have hlt:b<w.heap.size:=b0z? hbk;have c1:w.drew.cell? ⟨b,1,none⟩=some (.slice ao 0 cap):=by
  have:w.drew.heap[b]? = _:=hbk;rw[Lib.cell_of_heap this];rfl
 have c2:(w.alloc (.cells cs (ρ.t 5))).cell? ⟨b,1,none⟩=some (.slice ao 0 cap):=by
  have:(w.alloc (.cells cs (ρ.t 5))).heap[b]? = _:=(Lib.alloc_old w _ b hlt).trans hbk;rw[Lib.cell_of_heap this];rfl
 have f2:(w.alloc (.cells cs (ρ.t 5))).frozen? ⟨b,1,none⟩=false:=Lib.frozen_of_heap ((Lib.alloc_old w _ b hlt).trans hbk) 1;have hcopy:∀W:World,(Builtin.copy_ #[(ρ.t 37),(ρ.t 37)] (ρ.t 3) #[.slice (some ⟨w.heap.size,0,none⟩) 0 cs.size,.slice ao 0 cap]).run P W = .ok (goInt 0) W :=
  fun W=>run_copy_none W (ρ.t 37) (ρ.t 37) (ρ.t 3) (ρ.t 5) _ _ 0 cs.size 0 cap L.t37 X.sizeByte rfl
 have mixed:=L.mixed;have t72:=L.t72;have a72:=L.a72;have z72:=L.z72;have v72:=L.v72;have u72:=run_underlying L.t72;have t70:=L.t70;have a70:=L.a70;have z70:=L.z70;have v70:=L.v70;have u70:=run_underlying L.t70;have t37:=L.t37;have a37:=L.a37;have z37:=L.z37;have v37:=L.v37;have u37:=run_underlying L.t37;have t3:=L.t3;have a3:=L.a3;have z3:=L.z3;have v3:=L.v3;have u3:=run_underlying L.t3;have t5:=X.t5;have a5:=X.a5;have z5:=X.z5;have v5:=X.v5;have u5:=run_underlying X.t5
 go_enter K.f241,Body.n241_ntmps ρ
 go_wp2
 go_region_o
 all_goals (go_wp2;go_end0;exact ⟨rfl,u2x hbk X.neB5 (by omega) (hmax (by unfold maxLen;omega)) rfl rfl rfl rfl⟩)
set_option maxHeartbeats 4000000 in
set_option maxRecDepth 100000 in
theorem hb_Grow (L:BldL P ρ)(X:Builder.Extra P ρ)(K:GrowL P ρ){b n:Nat}{bs:List Nat}(w:World)(h:m0o (ρ.t 72) (ρ.t 5) b [] w bs)(hn:n<=70368744177664) :
  Calls P (ρ.f 165) #[.pointer (some ⟨b,0,none⟩),.int .i64 n] w fun e w'=>e = .returned (.tuple #[])/\∃bs',m0o (ρ.t 72) (ρ.t 5) b [] w' bs'/\(∀k∈bs',k∈bs\/w.heap.size<=k)/\But (· ∈ bs) w w':=by
 obtain ⟨p,v,hp,hbk0,hrow0,hne0,rfl⟩:=h;obtain ⟨ao,cap,rfl,hcap⟩:∃ao cap,v = .slice ao 0 cap/\cap<=maxLen:=by
  rcases hrow0 with ⟨rfl,_⟩ | ⟨g,cap,cur,m,rfl,_,_,_,k2,_⟩
  ·exact ⟨none,0,rfl,Nat.zero_le _⟩
  ·exact ⟨_,_,rfl,k2.1⟩
 have mixed:=L.mixed;have t72:=L.t72;have a72:=L.a72;have z72:=L.z72;have v72:=L.v72;have u72:=run_underlying L.t72;have t70:=L.t70;have a70:=L.a70;have z70:=L.z70;have v70:=L.v70;have u70:=run_underlying L.t70;have t37:=L.t37;have a37:=L.a37;have z37:=L.z37;have v37:=L.v37;have u37:=run_underlying L.t37;have t3:=L.t3;have a3:=L.a3;have z3:=L.z3;have v3:=L.v3;have u3:=run_underlying L.t3;have t9:=L.t9;have a9:=L.a9;have z9:=L.z9;have v9:=L.v9;have u9:=run_underlying L.t9;have t4:=L.t4;have a4:=L.a4;have z4:=L.z4;have v4:=L.v4;have u4:=run_underlying L.t4
 have t5:=X.t5;have a5:=X.a5;have z5:=X.z5;have v5:=X.v5;have u5:=run_underlying X.t5;have e240:=L.e240;have e241:=K.e241
 go_enter K.f165,Body.n165_ntmps ρ
 go_wp2_with (go_at_fn (ρ.f 240);refine (L.copy b p _ w hp hbk0).mono ?_)
 rintro e w1 ⟨rfl,hbk,hbut,hsz⟩;have c1:w1.drew.cell? ⟨b,1,none⟩=some (.slice ao 0 cap):=by
  have:w1.drew.heap[b]? = _:=hbk;rw[Lib.cell_of_heap this];rfl
 have cc1:w1.cell? ⟨b,1,none⟩=some (.slice ao 0 cap):=c1;have hbs:∀ {W:World} {bs:List Nat},m0o (ρ.t 72) (ρ.t 5) b [] W bs->(∀k∈bs,k=b\/w1.heap.size<=k)->But (· = b) w1 W->∃bs',m0o (ρ.t 72) (ρ.t 5) b [] W bs'/\(∀k∈bs',k∈b::(Value.slice ao 0 cap).ownBlock.toList\/w.heap.size<=k)/\But (· ∈ b::(Value.slice ao 0 cap).ownBlock.toList) w W:=fun {W bs} h1 h2 h3 =>
  ⟨bs,h1,fun k hk=>(h2 k hk).imp (fun q=>by simp[q]) (fun q=>by omega),h3.os.trans hbut.os,h3.tape.trans hbut.tape,h3.output.trans hbut.output,q4n hbut.size h3.size,
   fun k hk hn=>(h3.same k (q4o hk hbut.size) (fun e=>hn (by simp[e]))).trans (hbut.same k hk (fun e=>hn (by simp[e])))⟩
 by_cases hcn:cap<n
 ·have cG:=hb_grow L X K w1.drew hbk hcn hn;have hcI:((cap:Int)<(n:Int)):=by omega
  go_wp2
  go_region_o
  all_goals go_wp2_with (go_at_fn (ρ.f 241);refine cG.mono ?_;rintro e w' ⟨rfl,bs2,h1,h2,h3⟩)
  all_goals (go_end0;exact ⟨rfl,hbs h1 h2 ⟨h3.os,h3.tape,h3.output,h3.size,h3.same⟩⟩)
 ·have hwr:wrap64 (cap:Int)=(cap:Int):=by unfold wrap64;unfold maxLen at hcap;omega
  have hcI:¬(wrap64 (cap:Int)<(n:Int)):=by rw[hwr];omega
  clear hwr;have hrow:RowU (ρ.t 5) (.slice ao 0 cap) [] w1:=hrow0.kept fun g hg=>hbut.same g (hrow0.lt g hg) (fun e=>hne0 (by rw[hg,e]))
  have hB:m0o (ρ.t 72) (ρ.t 5) b [] w1 (b::(Value.slice ao 0 cap).ownBlock.toList):=⟨_,_,.inr rfl,hbk,hrow,hne0,rfl⟩
  go_wp2
  go_region_o
  all_goals go_wp2
  all_goals (go_end0;exact ⟨rfl,_,hB.same (fun _ _=>rfl),fun k hk => .inl hk,hbut.os,hbut.tape,hbut.output,hbut.size,fun k hk hn=>hbut.same k hk (fun e=>hn (by simp[e]))⟩)
end
section
open Go.Shelf Go.RowKit Go.Proofs
@[reducible] def u1a (s:Sig)(g:El (tupU s.ps)->Option (El s.out)):Hand:=⟨tupU s.ps,s.out,g⟩
def u1b:List (Nat×Hand)->Nat->Option Hand
 | [],_=>none
 | (m,H)::r,n=>bif Nat.beq m n then some H else u1b r n
theorem e2l {l:List (Nat×Hand)}{n:Nat}{H:Hand}(h:u1b l n=some H):(n,H)∈l:=by
 induction l with
 | nil=>cases h
 | cons p l ih =>
  obtain ⟨m,G⟩:=p;unfold u1b at h;cases hb:Nat.beq m n with
  | true =>
   rw[hb] at h;simp only[cond_true,Option.some.injEq] at h;rw[q3u hb,h];simp
  | false =>
   rw[hb] at h;exact q3h _ (ih h)
def q0i (P:Program)(G:World->Fz->Prop)(f:FuncId)(s:Sig)(g:El (tupU s.ps)->Option (El s.out)):Prop :=
 ∀x y,g x=some y->∀W F O vs,G W F->(∀b,F b->b<W.heap.size)->c0r s.ps vs->RdB P (tupU s.ps) x W F O (cat vs)->O.Nodup->(∀b∈O,¬F b) ->
  Calls P f vs.toArray W fun e W'=>∃v F',e = .returned v/\Move W F O W' F'/\Ret P W O s vs s.out y W' F' v
theorem Ret.cast {P:Program}{W:World}{O:List Nat}{s:Sig}{args:List Value}{t u:Ty}(e:t=u){y:El t}{W':World}{F':Fz}{v:Value}(h:Ret P W O s args t y W' F' v):Ret P W O s args u (e ▸ y) W' F' v:=by
 subst e;exact h
theorem p0c {cx:Cx}{f:FuncId}{s:Sig}{g:El (tupU s.ps)->Option (El s.out)}(hs:cx.sig f=some s)(hc:q0i cx.P (GlobOk cx) f s g) :
  ∀s',cx.sig f=some s'->∀(x:El (cx.arg f)) (y:El (cx.out f)),handF cx (u1a s g) f x=some y->∀W F O vs,GlobOk cx W F->(∀b,F b->b<W.heap.size)->c0r s'.ps vs->RdB cx.P (cx.arg f) x W F O (cat vs) ->
   O.Nodup->(∀b∈O,¬F b)->Calls cx.P f vs.toArray W fun e W'=>∃v F',e = .returned v/\Move W F O W' F'/\Ret cx.P W O s' vs (cx.out f) y W' F' v:=by
 intro s' hs' x y hy W F O vs hG hF hf hx hO hOF;rw[hs] at hs';injection hs' with hs';subst hs';unfold handF at hy;cases hx':d0b (a:=cx.arg f) (b:=(u1a s g).a) x with
 | none=>rw[hx'] at hy;cases hy
 | some x' =>
  rw[hx'] at hy;simp only[q3l] at hy;obtain ⟨ex,rfl⟩:=b0g hx';have ex':cx.arg f=tupU s.ps:=ex;cases hg:g (ex' ▸ x) with
  | none=>rw[hg] at hy;cases hy
  | some z =>
   rw[hg] at hy;simp only[q3l] at hy;obtain ⟨ey,rfl⟩:=b0g hy;refine (hc _ _ hg W F O vs hG hF hf (RdB.cast ex' hx) hO hOF).mono ?_;rintro e W' ⟨v,F',h1,h2,h3⟩;exact ⟨v,F',h1,h2,h3.cast ey⟩
theorem But.move {W W':World}{F:Fz}{O:List Nat}(h:But (· ∈ O) W W')(hF:∀b,F b->b<W.heap.size)(hO:∀b∈O,¬F b):Move W F O W' F :=
 ⟨⟨h.os,h.tape,h.output,h.size,fun b hb=>h.same b (hF b hb) (fun k=>hO b k hb),fun _ hb=>hb⟩,fun b hb hn=>h.same b hb hn,fun _ hb => .inl hb⟩
section
variable {P:Program}{ρ:Ren}{G:World->Fz->Prop}
theorem g2l {T e:Nat}{ps:List Ty}{x:El (tupU (.sb T e::ps))}{W:World}{F:Fz}{O:List Nat}{vs:List Value}(hf:c0r (.sb T e::ps) vs)(hx:RdB P (tupU (.sb T e::ps)) x W F O (cat vs)) :
  ∃b bs O2 us,vs = .pointer (some ⟨b,0,none⟩)::us/\O=bs++O2/\m0o T e b x.1 W bs/\c0r ps us/\RdB P (tupU ps) x.2 W F O2 (cat us):=by
 match vs,hf with
 | v::us,hf =>
  obtain ⟨O1,O2,rfl,⟨u,h1,b,h2,h3⟩,h4⟩:=hx;have hc:v.cells = #[v]:=oneCell_cells (hf.1.2.1 rfl);rw[i0d hf.1.2.2 0 (by simp[width]),one,hc] at h1;have hv:v=u:=by simpa using h1
  rw[k0e hf.1.2.2] at h4;exact ⟨b,O1,O2,us,by rw[hv,h2],rfl,h3,hf.2,h4⟩
theorem q0a {t:Ty}{ps:List Ty}{x:El (tupU (t::ps))}{W:World}{F:Fz}{O:List Nat}{vs:List Value}(hw:width t=1)(ha:agg t=false)(hf:c0r (t::ps) vs)(hx:RdB P (tupU (t::ps)) x W F O (cat vs)) :
  ∃v us O1 O2,vs=v::us/\O=O1++O2/\RdB P t x.1 W F O1 (fun j=>if j=0 then some v else none)/\c0r ps us/\RdB P (tupU ps) x.2 W F O2 (cat us):=by
 match vs,hf with
 | v::us,hf =>
  obtain ⟨O1,O2,rfl,h1,h4⟩:=hx;have hc:v.cells = #[v]:=oneCell_cells (hf.1.2.1 ha);rw[k0e hf.1.2.2] at h4;refine ⟨v,us,O1,O2,rfl,rfl,RdB.congr t (fun j hj => ?_) h1,hf.2,h4⟩;rw[i0d hf.1.2.2 j hj,one,hc];have:j=0:=by omega
  subst this;rfl
noncomputable def g0x (x s:List UInt8):Option (Int×(Bool×List UInt8)):=tif (decide (x.length+s.length<=140737488355328)) (some ((s.length:Int),(false,x++s))) none
theorem m2h (b:Bool){v:Value}(h1:v.oneCell'=true):formed .err v:=⟨(fun e=>by cases e),(fun _=>h1),by rw[oneCell_cells h1];rfl⟩
theorem n1t (L:BldL P ρ)(X:Builder.Extra P ρ)(f166:P.funcs[ρ.f 166]? = some (Body.n166 ρ)):q0i P G (ρ.f 166) ⟨[.sb (ρ.t 72) (ρ.t 5),.str],[.int .i64,.err],[0]⟩ (fun x=>g0x x.1 x.2.1):=by
 intro x y hy W F O vs _ hF hf hx hO hOF;obtain ⟨b,bs,O2,us,rfl,rfl,hb,hf2,hx2⟩:=g2l hf hx;obtain ⟨v,us2,O3,O4,rfl,rfl,⟨rfl,hv⟩,hf3,hx3⟩:=q0a rfl rfl hf2 hx2
 match us2,hf3 with
 | [],_ =>
 have hO4:O4=[]:=hx3;subst hO4;simp only[q3v] at hO hOF ⊢;have hv:v = .string ⟨x.2.1.toArray⟩:=by simpa [Rd,RdP] using hv
 subst hv;unfold g0x at hy;dsimp only at hy;rw[u0y] at hy;split at hy
 case isFalse=>cases hy
 rename_i hcond;simp only[q3a] at hcond;injection hy with hy;subst hy;refine (n1u L X f166 x.2.1 W hb hcond).mono ?_;rintro e W' ⟨rfl,bs',h1,h2,h3⟩;refine ⟨_,F,rfl,h3.move hF hOF,[.int .i64 x.2.1.length,.nilIface],bs',⟨⟨(fun e=>by cases e),(fun _=>rfl),rfl⟩,m2h false rfl,trivial⟩,rfl,
  ⟨[],bs',rfl,⟨rfl,rfl⟩,[],bs',rfl,⟨rfl,.nilIface,rfl,rfl,fun _=>rfl,fun e=>by cases e⟩,_,rfl,b,rfl,h1⟩,h1.nodup,fun k hk hf => ?_,h2⟩
 rcases h2 k hk with q | q
 ·exact hOF k q hf
 ·have:=hF k hf;omega
theorem s2h (L:Lays.n169 P ρ)(X:Builder.Extra P ρ):q0i P G (ρ.f 169) ⟨[.sb (ρ.t 72) (ρ.t 5)],[.str],[0]⟩ (fun x=>some (x.1,x.1)):=by
 intro x y hy W F O vs _ hF hf hx hO hOF;obtain ⟨b,bs,O2,us,rfl,rfl,hb,hf2,hx2⟩:=g2l hf hx
 match us,hf2 with
 | [],_ =>
 have hO4:O2=[]:=hx2;subst hO4;simp only[q3v] at hO hOF ⊢;injection hy with hy;subst hy;refine (s2i L X W hb).mono ?_;rintro e W' ⟨rfl,h2,h3⟩;exact ⟨_,F,rfl,h3.move hF hOF,[_],bs,⟨⟨(fun e=>by cases e),(fun _=>rfl),rfl⟩,trivial⟩,rfl,⟨[],bs,rfl,⟨rfl,rfl⟩,_,rfl,b,rfl,h2⟩,h2.nodup,hOF,fun k hk => .inl hk⟩
theorem hc_Len (L:BldL P ρ)(f170:P.funcs[ρ.f 170]? = some (Body.n170 ρ)):q0i P G (ρ.f 170) ⟨[.sb (ρ.t 72) (ρ.t 5)],[.int .i64],[0]⟩ (fun x=>some ((x.1.length:Int),x.1)):=by
 intro x y hy W F O vs _ hF hf hx hO hOF;obtain ⟨b,bs,O2,us,rfl,rfl,hb,hf2,hx2⟩:=g2l hf hx
 match us,hf2 with
 | [],_ =>
 have hO4:O2=[]:=hx2;subst hO4;simp only[q3v] at hO hOF ⊢;injection hy with hy;subst hy;refine (hb_Len L f170 W hb).mono ?_;rintro e W' ⟨rfl,rfl⟩;exact ⟨_,F,rfl,(But.refl (· ∈ bs) _).move hF hOF,[_],bs,⟨⟨(fun e=>by cases e),(fun _=>rfl),rfl⟩,trivial⟩,rfl,⟨[],bs,rfl,⟨rfl,rfl⟩,_,rfl,b,rfl,hb⟩,hb.nodup,hOF,fun k hk => .inl hk⟩
noncomputable def z1l (x:List UInt8)(c:Int):Option (List UInt8):=tif (decide (x.length=0)&&(decide (0<=c)&&decide (c<=70368744177664))) (some []) none
theorem hc_Grow (L:BldL P ρ)(X:Builder.Extra P ρ)(K:GrowL P ρ):q0i P G (ρ.f 165) ⟨[.sb (ρ.t 72) (ρ.t 5),.int .i64],[],[0]⟩ (fun x=>z1l x.1 x.2.1):=by
 intro x y hy W F O vs _ hF hf hx hO hOF;obtain ⟨b,bs,O2,us,rfl,rfl,hb,hf2,hx2⟩:=g2l hf hx;obtain ⟨v,us2,O3,O4,rfl,rfl,⟨rfl,hv⟩,hf3,hx3⟩:=q0a rfl rfl hf2 hx2
 match us2,hf3 with
 | [],_ =>
 have hO4:O4=[]:=hx3;subst hO4;simp only[q3v] at hO hOF ⊢;have hv:v = .int .i64 x.2.1:=by simpa [Rd,RdP] using hv
 subst hv;unfold z1l at hy;dsimp only at hy;rw[u0y] at hy;split at hy
 case isFalse=>cases hy
 rename_i hcond;simp only[q1n,q3a] at hcond;obtain ⟨hlen,h0,hn⟩:=hcond;injection hy with hy;subst hy;have hx0:x.1=[]:=q3n hlen;rw[hx0] at hb;have hc:((x.2.1.toNat:Nat):Int)=x.2.1:=by omega
 have:=hb_Grow L X K (n:=x.2.1.toNat) W hb (by omega);rw[hc] at this;refine this.mono ?_;rintro e W' ⟨rfl,bs',h1,h2,h3⟩;refine ⟨_,F,rfl,h3.move hF hOF,[],bs',trivial,rfl,⟨_,rfl,b,rfl,h1⟩,h1.nodup,fun k hk hf => ?_,h2⟩;rcases h2 k hk with q | q
 ·exact hOF k q hf
 ·have:=hF k hf;omega
end
end
section
open Go.Shelf Go.RowKit Go.Proofs
section
variable {P:Program}{G:World->Fz->Prop}
end
end
end Go.Flat
