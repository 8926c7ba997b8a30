/-
 The flat reading and its soundness, merged part 4 of 4 (Z).
-/
import Derived.Test.YteopnkdnglpbfaaGreatDoorFlatM3
import Derived.ChangeArms
import Derived.MakeChecks
set_option linter.unusedVariables false
set_option linter.unusedSimpArgs false
section
namespace Go.Flat
open Go.RowKit (Below)
open Go.ChangeShapes Go.WideShapes
def litP:(c:Ty)->(DataW Unit->Option (El c))×(List (DataW Unit)->Option (El c))
 | .unit=>(fun _=>none,fun ds=>match ds with | []=>some () | _=>none)
 | .pair a b=>(fun _=>none,fun ds=>match ds with | d::r=>((litP a).1 d).bind fun x=>((litP b).2 r).map fun y=>(x,y) | []=>none)
 | .wrap e=>(fun d=>match d with | .agg ds=>(litP e).2 ds | _=>none,fun ds=>match ds with | [.agg ds']=>(litP e).2 ds' | _=>none)
 | .int k=>(fun d=>match d with | .lit (.int k' n)=>if k=k' then some n else none | _=>none,fun ds=>match ds with | [.lit (.int k' n)]=>if k=k' then some n else none | _=>none)
 | .bool=>(fun d=>match d with | .lit (.bool b)=>some b | _=>none,fun ds=>match ds with | [.lit (.bool b)]=>some b | _=>none)
 | _=>(fun _=>none,fun _=>none)
section
variable {P:Program} {w:World} {F:Fz}
theorem b2g:∀(c:Ty) (d:DataW Unit) (x:El c),(∀a b,c ≠ .pair a b)->c ≠ .unit->(litP c).2 [d]=some x->(litP c).1 d=some x:=by
 intro c d x h1 h2 h;cases c with
 | unit=>exact absurd rfl h2
 | pair a b=>exact absurd rfl (h1 a b)
 | wrap e =>
  simp only[litP] at h ⊢;split at h
  ·rename_i ds' e';injection e' with e' _;subst e';exact h
  ·cases h
 | int k =>
  simp only[litP] at h ⊢;split at h
  ·rename_i k' n e';injection e' with e' _;subst e';exact h
  ·cases h
 | bool =>
  simp only[litP] at h ⊢;split at h
  ·rename_i b e';injection e' with e' _;subst e';exact h
  ·cases h
 | _=>simp[litP] at h
def LitOk (P:Program) (w:World) (F:Fz) (self:TypeId->Ty->Bool):Prop :=
 ∀t c,self t c=true->∀n (cs:List Value) (d:DataW Unit) (p:List MemPlace),DataW.trod (fun _=>()) P w 0 (fun _=>true) false n t cs=some (d,p)->∀x:El c,(litP c).1 d=some x->cs.length=width c/\Rd P c x w F (fun j=>cs[j]?)
def m2f (self:TypeId->Ty->Bool):Prop:=∀t c,self t c=true->(∀a b,c ≠ .pair a b)/\c ≠ .unit
theorem a1t (d:Nat):m2f (readB P d):=by
 intro t c h;cases d with
 | zero=>cases h
 | succ d =>
  constructor
  ·rintro a b rfl;unfold readB at h;split at h<;>simp_all
  ·rintro rfl;unfold readB at h;split at h<;>simp_all
theorem f2o {self:TypeId->Ty->Bool} (hs:m2f self) (ih:LitOk P w F self) {n:Nat}:∀(fs:List Field) (e:Ty) (off:Nat) (cs:List Value) (ds:List (DataW Unit)) (x:El e),
  e0c P self fs e off=true->off+width e<=cs.length->ds.length=fs.length->(litP e).2 ds=some x ->
  (∀(i:Nat) f d,fs[i]? = some f->ds[i]? = some d->∃p,DataW.trod (fun _=>()) P w 0 (fun _=>true) false n f.type ((cs.drop f.offset).take (P.cellsOf f.type))=some (d,p)) ->
   Rd P e x w F (fun j=>cs[off+j]?):=by
 intro fs;induction fs with
 | nil =>
  intro e off cs ds x h _ _ _ _;cases e<;>(try (cases h));exact trivial
 | cons f r ihf =>
  intro e off cs ds x h hlen hds hx hf;cases ds with
  | nil=>simp at hds
  | cons d ds =>
  have step:∀(c:Ty) (y:El c),Nat.beq f.offset off=true->o0h P f.type c=true->self f.type c=true->off+width c<=cs.length->(litP c).1 d=some y->Rd P c y w F (fun j=>cs[off+j]?):=by
   intro c y k1 k2 k3 k4 k5;have k1:=q2u k1;obtain ⟨p,hy⟩:=hf 0 f d rfl rfl;rw[k1,e0n k2] at hy;obtain ⟨_,h2⟩:=ih _ _ k3 _ _ _ _ hy y k5;refine Rd.congr c (fun j hj => ?_) h2;rw[List.getElem?_take,q0z hj,q3i]
  cases r with
  | nil =>
   simp only[e0c,q1n] at h;have:ds=[]:=by cases ds with | nil=>rfl | cons a b=>simp at hds
   subst this;obtain ⟨n1,n2⟩:=hs _ _ h.2.2;exact step _ x h.1 h.2.1 h.2.2 hlen (b2g _ d x n1 n2 hx)
  | cons g r =>
   cases e with
   | pair a b =>
    simp only[e0c,q1n] at h;simp only[width] at hlen;simp only[litP] at hx;cases h1:(litP a).1 d with
    | none=>rw[h1] at hx;cases hx
    | some y =>
     rw[h1] at hx;simp only[q2m,q2q] at hx;obtain ⟨z,h2,rfl⟩:=hx;refine ⟨step a y h.1 h.2.1 h.2.2.1 (by omega) h1,?_⟩;have:=ihf b (off+width a) cs ds z h.2.2.2 (by omega) (by simpa using hds) h2 (fun i f' d' hi hd=>hf (i+1) f' d' (by simpa using hi) (by simpa using hd));exact Rd.congr b (fun j _=>by rw[q3k]) this
   | _=>simp[e0c] at h
theorem j2y {self:TypeId->Ty->Bool} (hs:m2f self) (ih:LitOk P w F self) {el:TypeId} {m:Nat}:∀(n:Nat) (e:Ty) (i:Nat) (cs:List Value) (ds:List (DataW Unit)) (x:El e),
  f0c P self el n e=true->i*P.cellsOf el+width e<=cs.length->ds.length=n->(litP e).2 ds=some x ->
  (∀(j:Nat) d,ds[j]? = some d->∃p,DataW.trod (fun _=>()) P w 0 (fun _=>true) false m el ((cs.drop ((i+j)*P.cellsOf el)).take (P.cellsOf el))=some (d,p)) ->
   Rd P e x w F (fun j=>cs[i*P.cellsOf el+j]?):=by
 intro n;induction n with
 | zero =>
  intro e i cs ds x h _ _ _ _;cases e<;>(try (cases h));exact trivial
 | succ n ihn =>
  intro e i cs ds x h hlen hds hx hf;cases ds with
  | nil=>simp at hds
  | cons d ds =>
  have step:∀(c:Ty) (y:El c),o0h P el c=true->self el c=true->(litP c).1 d=some y->Rd P c y w F (fun j=>cs[i*P.cellsOf el+j]?):=by
   intro c y k2 k3 k5;obtain ⟨p,hy⟩:=hf 0 d rfl;obtain ⟨_,h2⟩:=ih _ _ k3 _ _ _ _ hy y k5;refine Rd.congr c (fun j hj => ?_) h2;rw[List.getElem?_take,q0z (by rw[e0n k2];exact hj),q3i,Nat.add_zero]
  cases n with
  | zero =>
   simp only[f0c,q1n] at h;have:ds=[]:=by cases ds with | nil=>rfl | cons a b=>simp at hds
   subst this;obtain ⟨n1,n2⟩:=hs _ _ h.2;exact step _ x h.1 h.2 (b2g _ d x n1 n2 hx)
  | succ n =>
   cases e with
   | pair a b =>
    simp only[f0c,q1n] at h;have hc:=e0n h.1;simp only[width] at hlen;simp only[litP] at hx;cases h1:(litP a).1 d with
    | none=>rw[h1] at hx;cases hx
    | some y =>
     rw[h1] at hx;simp only[q2m,q2q] at hx;obtain ⟨z,h2,rfl⟩:=hx;have e1:(i+1)*P.cellsOf el=i*P.cellsOf el+width a:=by rw[Nat.succ_mul,hc]
     refine ⟨step a y h.1 h.2.1 h1,?_⟩;have:=ihn b (i+1) cs ds z h.2.2 (by omega) (by simpa using hds) h2 (fun j d' hd=>by
      have:=hf (j+1) d' (by simpa using hd)
      rwa [show i+(j+1)=i+1+j by omega] at this)
     refine Rd.congr b (fun j _ => ?_) this;rw[e1,q3k]
   | _=>simp[f0c] at h
theorem lit_ok:∀d:Nat,LitOk P w F (readB P d):=by
 intro d;induction d with
 | zero=>intro t c h;cases h
 | succ d ih =>
  intro t c h n cs dd p hy x hx;unfold readB at h;split at h
  ·rename_i hu;obtain ⟨b,rfl,e⟩:=DataW.trod_bool hu hy;injection e with e1 _;subst e1;simp only[litP,Option.some.injEq] at hx;subst hx;exact ⟨rfl,rfl⟩
  ·rename_i k k' hu;obtain ⟨m,rfl,e,_⟩:=DataW.trod_int hu hy;injection e with e1 _;subst e1;have:k=k':=by simpa using h
   subst this;simp only[litP,if_true,Option.some.injEq] at hx;subst hx;exact ⟨rfl,rfl⟩
  ·simp[litP] at hx
  ·simp[litP] at hx
  ·rename_i fs e hu;simp only[q1n] at h;obtain ⟨xs,m,rfl,e1,hl,hxs,hget⟩:=DataW.trod_struct hu hy;injection e1 with e1 _;subst e1;have hcl:cs.length=width e:=by rw[hl,e0n h.1];rfl
   simp only[litP] at hx;refine ⟨hcl,?_⟩;have:=f2o (F:=F) (a1t d) ih (n:=m) fs.toList e 0 cs (xs.map (·.1)) x h.2 (by omega) (by simp[hxs]) hx (fun i f d' hi hd=>by
    have hi':fs[i]? = some f:=by simpa using hi
    have h1:=hget i f hi';rw[q3d] at hd;cases hxi:xs[i]? with
    | none=>rw[hxi] at hd;cases hd
    | some y =>
     rw[hxi] at hd h1;simp only[Option.map_some,Option.some.injEq] at hd;subst hd
     exact ⟨y.2,h1⟩)
   exact Rd.congr e (fun j _=>by rw[Nat.zero_add]) this
  ·rename_i m el e hu;simp only[q1n] at h;obtain ⟨xs,q,rfl,e1,hl,hxs,hget⟩:=DataW.trod_array hu hy;injection e1 with e1 _;subst e1;have hcl:cs.length=width e:=by rw[hl,e0n h.1];rfl
   simp only[litP] at hx;refine ⟨hcl,?_⟩;have:=j2y (F:=F) (a1t d) ih (m:=q) m e 0 cs (xs.map (·.1)) x h.2 (by omega) (by simp[hxs]) hx (fun j d' hd=>by
    rw[q3d] at hd;cases hxi:xs[j]? with
    | none=>rw[hxi] at hd;cases hd
    | some y =>
     have hlt:j<xs.length:=(q2p.1 hxi).1;have h1:=hget j (by omega);rw[hxi] at hd h1;simp only[Option.map_some,Option.some.injEq] at hd;subst hd;rw[Nat.zero_add]
     exact ⟨y.2,h1⟩)
   exact Rd.congr e (fun j _=>by rw[Nat.zero_mul,Nat.zero_add]) this
  ·cases h
theorem z1g:∀ {l:List (Nat×((t:Ty)×El t))} {g:Nat} {x:(t:Ty)×El t},p1e l g=some x->(g,x)∈l:=by
 intro l;induction l with
 | nil=>intro g x h;cases h
 | cons y l ih =>
  intro g x h;obtain ⟨m,z⟩:=y;unfold p1e at h;cases hb:Nat.beq m g with
  | true =>
   rw[hb] at h;simp only[cond_true,Option.some.injEq] at h;subst h;rw[q2u hb];simp
  | false =>
   rw[hb] at h;exact q2j _ (ih h)
theorem b2i {l:List (String×DataW Unit)} (h:∃ps,DataW.LaidVars P w l ps) {nm:String} {d:DataW Unit} (hm:(nm,d)∈l) {g:Nat} {t:TypeId} (hg:P.globalNamed nm=some g) (ht:(P.globals[g]?).map (·.type)=some t)
  {c:Ty} {dep:Nat} (hB:readB P dep t c=true) {x:El c} (hx:(litP c).1 d=some x) (hw:0<width c):g<w.heap.size/\Rd P c x w F (mem w g 0):=by
 obtain ⟨ps,h⟩:=h;induction l generalizing ps with
 | nil=>cases hm
 | cons y l ih =>
  obtain ⟨n',d'⟩:=y;obtain ⟨g',t',cs,fuel,p,q,k1,k2,k3,k4,k5,_⟩:=h;rcases q2l.1 hm with e | hm
  ·injection e with e1 e2;subst e1 e2;rw[hg] at k1;injection k1 with k1;subst k1;rw[ht] at k2;injection k2 with k2;subst k2;obtain ⟨z1,z2⟩:=lit_ok (F:=F) dep t c hB fuel cs.toList d p k4 x hx;have hv:∀j,w.cell? ⟨g,j,none⟩=cs[j]? := fun j=>World.var?_cell hg k3 j
   refine ⟨?_,Rd.congr c (fun j _ => ?_) z2⟩
   ·have h0:=hv 0
    have : (0 : Nat) < cs.size := by have : cs.toList.length = cs.size := by simp
                                     omega
    rw[Array.getElem?_eq_getElem this] at h0;unfold World.cell? at h0;split at h0
    ·rename_i hb;exact e0a? hb
    ·cases h0
   ·show w.cell? ⟨g,0+j,none⟩=_;rw[Nat.zero_add,hv j];simp
  ·exact ih hm q k5
end
end Go.Flat
end
