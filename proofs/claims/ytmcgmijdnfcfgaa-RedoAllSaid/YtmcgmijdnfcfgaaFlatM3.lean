/-
 The flat reading and its soundness, merged part 3 of 4 (TK, TL, TL2, TL3, TL4, TM, TN, TO, TP, TQ, TR, TS, TT).
-/
import Derived.Test.YtmcgmijdnfcfgaaFlatM2
import Derived.MapKept
import Derived.LoopN
set_option linter.unusedVariables false
set_option linter.unusedSimpArgs false
section
namespace Go.Flat
open Go.RowKit (Below)
theorem f0z:∀ {l:List Nat},nodupB l=true↔l.Nodup:=by
 intro l;induction l with
 | nil=>simp[nodupB]
 | cons n r ih =>
  simp only[nodupB,Bool.and_eq_true,Bool.not_eq_true',ih,List.nodup_cons];refine and_congr_left fun _ => ?_
  cases hh:hasN r n with
  | true=>simp[b0r.1 hh]
  | false=>simp;exact fun k=>by rw[b0r.2 k] at hh;cases hh
theorem l0c {t l:List Nat} (h:apartB t l=true):t.Nodup∧True∧∀a∈t,∀b∈l,a≠b:=by
 unfold apartB at h;simp only[Bool.and_eq_true,List.all_eq_true,Bool.not_eq_true'] at h;refine ⟨f0z.1 h.1,trivial,fun a ha b hb e => ?_⟩;have:=h.2 a ha;rw[e] at this;rw[b0r.2 hb] at this;cases this
section
variable {cx:Cx} {call:Oracle cx} {fx:Hints} {W W':World} {F F':Fz} {E E':EnvM} {h:Heap} {N:Nat→Prop} {ρ:Operand→V} {a:Act} {R:Type}
theorem RdV1.formed {P:Program} {t:Ty} {ag:Bool} {cs:List Cell} {v:Value} (hv:RdV1 P W F E ag cs v) (ha:ag=agg t) (hw:v.cells.size=width t):formed t v:=by
 subst ha;exact ⟨hv.2.1,hv.2.2,hw⟩
theorem e1c {t:Ty} (h:d1l t=true):agg t=false∧width t=1:=by
 cases t<;>first | (cases h;done) | exact ⟨rfl,rfl⟩
def HeadOk (P:Program) (W:World) (F:Fz) (E:EnvM) (h:Heap) (p:Ty) (c:Cell) (v:Value):Prop :=
 (∀n ver,backOf p c n ver→v.cells = #[v]∧b0q P W F E c v∧a0h h n=ver∧∃L,E.m n ver=some L∧L.fits h n p)∧(d1l p=true→v.cells = #[v])∧p0n E h p c (one v)
def m0r (P:Program) (W:World) (F:Fz) (E:EnvM) (h:Heap):List Ty→List Cell→List Value→Prop
 | [],[],[]=>True
 | p::ps,c::cs,v::vs=>HeadOk P W F E h p c v∧m0r P W F E h ps cs vs
 | _,_,_=>False
theorem m0r.later {P:Program} (hl:Later W F W' F'):∀ {ps:List Ty} {heads:List Cell} {vs:List Value},m0r P W F E h ps heads vs→m0r P W' F' E h ps heads vs:=by
 intro ps;induction ps with
 | nil=>intro heads vs hh;match heads,vs,hh with
  | [],[],_=>exact trivial
 | cons p ps ih =>
  intro heads vs hh
  match heads,vs,hh with
  | c::cs,v::vs,hh =>
   refine ⟨⟨fun n ver hc => ?_,hh.1.2⟩,ih hh.2⟩;obtain ⟨q1,q2,q3⟩:=hh.1.1 n ver hc;exact ⟨q1,q2.later hl (EnvLe.refl E),q3⟩
theorem dmapB_no:∀(t:Ty) (cs:List Cell),(∀c∈cs,∀n v o,c ≠ .loc n v o)→g0y h t cs=[]:=by
 intro t;induction t with
 | pair a b iha ihb=>intro cs hc;simp only[g0y,iha cs hc,ihb _ (fun c hcc=>hc c (List.mem_of_mem_drop hcc)),List.append_nil]
 | wrap e ih=>intro cs hc;exact ih cs hc
 | opt e ih=>intro cs hc;cases cs with
  | nil=>rfl
  | cons c cs=>exact ih _ (fun c' hc'=>hc c' (by simp at hc';simp[hc']))
 | ref e _=>intro cs hc;cases cs with
  | nil=>rfl
  | cons c cs=>cases c<;>first | rfl | exact absurd rfl (hc _ List.mem_cons_self _ _ _)
 | tref k e _=>intro cs hc;cases cs with
  | nil=>rfl
  | cons c cs=>cases c<;>first | rfl | exact absurd rfl (hc _ List.mem_cons_self _ _ _)
 | tk k=>intro cs hc;cases cs with
  | nil=>rfl
  | cons c cs=>cases c<;>first | rfl | exact absurd rfl (hc _ List.mem_cons_self _ _ _)
 | _=>intro cs _;cases cs<;>rfl
theorem d1a (hr:HR cx.P W F E N h):∀(t:Ty) (cs:List Cell) (x:El t) (rest:List Cell) (taken lent:List Nat),b0b cx call h t cs=some (x,rest,taken,lent)→∀vs:List Value,a0d cx.P W F E cs vs →
  ∀p∈g0y h t cs,(∃b,E.m p.2 (a0h h p.2)=some (.box b))∧a0h h p.2≤E.top p.2:=by
 intro t;induction t with
 | pair a b iha ihb =>
  intro cs x rest taken lent hp vs hv p hm;simp only[b0b] at hp;obtain ⟨y,h1,hp⟩:=Option.bind_eq_some_iff.1 hp;obtain ⟨z,h2,hp⟩:=Option.map_eq_some_iff.1 hp;simp only[g0y,List.mem_append] at hm;rcases hm with hm | hm
  ·exact iha cs y.1 y.2.1 y.2.2.1 y.2.2.2 h1 vs hv p hm
  ·have hrest:=v0p a cs y.1 y.2.1 y.2.2.1 y.2.2.2 h1;refine ihb y.2.1 z.1 z.2.1 z.2.2.1 z.2.2.2 h2 (vs.drop (width a)) ?_ p (by rw[hrest];exact hm);rw[hrest];exact hv.drop _
 | wrap e ih=>intro cs x rest taken lent hp;exact ih cs x rest taken lent (by simpa only [b0b] using hp)
 | opt e ih =>
  intro cs x rest taken lent hp vs hv p hm;cases cs with
  | nil=>simp[b0b] at hp
  | cons c cs =>
   obtain ⟨v,r,rfl,h1,h2,h3⟩:=hv.uncons;unfold b0b at hp;split at hp
   ·rw[show g0y h (.opt e) (Cell.np::cs)=g0y h e [Cell.np] from rfl,dmapB_no e _ (by intro c hc n v o hcc;simp at hc;rw[hc] at hcc;cases hcc)] at hm;cases hm
   ·obtain ⟨y,hy,hp⟩:=Option.bind_eq_some_iff.1 hp;exact ih [c] y.1 y.2.1 y.2.2.1 y.2.2.2 hy [v] (a0d.one h1 h2) p hm
 | ref e ih =>
  intro cs x rest taken lent hp vs hv p hm;cases cs with
  | nil=>simp[b0b] at hp
  | cons c cs =>
   simp only[b0b] at hp;split at hp
   ·rename_i n ver off;split at hp
    ·rename_i ver' e' bs hn;split at hp
     ·obtain ⟨y,hy,hp⟩:=Option.bind_eq_some_iff.1 hp;obtain ⟨_,L,l1,l2⟩:=hr.blk n ver' _ hn;obtain ⟨b,arr,T,rfl,hb,hcells,_⟩:=l2;refine ih bs y.1 y.2.1 y.2.2.1 y.2.2.2 hy _ hcells p ?_;have hbx:l0b h n=bs:=by unfold l0b;rw[hn]
      rw[show g0y h (.ref e) (Cell.loc n ver off::cs)=g0y h e (l0b h n) from rfl,hbx] at hm;exact hm
     ·cases hp
    ·cases hp
   ·cases hp
 | tref k e ih =>
  intro cs x rest taken lent hp vs hv p hm;cases cs with
  | nil=>simp[b0b] at hp
  | cons c cs =>
   simp only[b0b] at hp;split at hp
   ·rename_i n ver off;split at hp
    ·rename_i ver' e' bs hn;split at hp
     ·obtain ⟨y,hy,hp⟩:=Option.bind_eq_some_iff.1 hp;obtain ⟨hNn,L,l1,l2⟩:=hr.blk n ver' _ hn;have hle:=a0y hr hNn (List.getElem?_eq_some_iff.1 hn).1;rw[g0h hn] at hle;obtain ⟨b,arr,T,rfl,hb,hcells,_⟩:=l2;have hbx:l0b h n=bs:=by unfold l0b;rw[hn]
      rw[show g0y h (.tref k e) (Cell.loc n ver off::cs)=(k,n)::g0y h e (l0b h n) from rfl,hbx,List.mem_cons] at hm;rcases hm with rfl | hm
      ·rw[g0h hn];exact ⟨⟨b,l1⟩,Nat.le_of_eq hle⟩
      ·exact ih bs y.1 y.2.1 y.2.2.1 y.2.2.2 hy _ hcells p hm
     ·cases hp
    ·cases hp
   ·cases hp
 | tk k =>
  intro cs x rest taken lent hp vs hv p hm;cases cs with
  | nil=>simp[b0b] at hp
  | cons c cs =>
   obtain ⟨v,r,rfl,h1,h2,h3⟩:=hv.uncons;simp only[b0b] at hp;split at hp
   ·rename_i n ver off;split at hp
    ·rename_i hver;rw[show g0y h (.tk k) (Cell.loc n ver off::cs)=[(k,n)] from rfl,List.mem_singleton] at hm;subst hm;obtain ⟨q1,⟨L,q2⟩,q3⟩:=h1;have q4:=q3 L q2;rw[hver.1] at q1 q2;cases L with
     | box b=>exact ⟨⟨b,q2⟩,q1⟩
     | tree w' bs'=>exact q4.elim
     | nil=>exact q4.elim
     | arr b' w l c=>exact q4.elim
    ·cases hp
   ·cases hp
 | _=>intro cs x rest taken lent hp vs hv p hm;cases cs<;>cases hm
theorem argsB_dm (hr:HR cx.P W F E N h) (hρ:∀x,RdV cx.P W F E (ρ x) (a.eval x)):∀(ps:List Ty) (xs:List Operand) (x:El (tupU ps)) (taken lent:List Nat) (heads:List Cell),
  m0p cx call h ps (xs.map ρ)=some (x,taken,lent,heads)→∀p∈u0o h ps (xs.map ρ),(∃b,E.m p.2 (a0h h p.2)=some (.box b))∧a0h h p.2≤E.top p.2:=by
 intro ps;induction ps with
 | nil=>intro xs x taken lent heads hk p hm;cases xs<;>cases hm
 | cons q ps ih =>
  intro xs x taken lent heads hk p hm;cases xs with
  | nil=>simp[m0p] at hk
  | cons y ys =>
   have hv:=hρ y;simp only[List.map_cons] at hk hm;cases hy:ρ y with
   | tup l=>rw[hy] at hk;simp[m0p] at hk
   | undef=>rw[hy] at hk;simp[m0p] at hk
   | lost=>rw[hy] at hk;simp[m0p] at hk
   | v ag cs =>
    rw[hy] at hk hv hm;simp only[m0p] at hk;split at hk
    case isFalse=>cases hk
    obtain ⟨z,h1,hk⟩:=Option.bind_eq_some_iff.1 hk;obtain ⟨w,h2,hk⟩:=Option.map_eq_some_iff.1 hk;simp only[u0o,List.mem_append] at hm;rcases hm with hm | hm
    ·unfold f0y at h1;obtain ⟨b,hb,_⟩:=Option.bind_eq_some_iff.1 h1;exact d1a hr q cs b.1 b.2.1 b.2.2.1 b.2.2.2 hb _ hv.1 p hm
    ·exact ih ys w.1 w.2.1 w.2.2.1 w.2.2.2 h2 p hm
theorem z0j {l:List (Nat×Nat)} (h:okD l=true) {p:Nat×Nat} (hp:p∈l):x0j l p.1=p.2:=by
 simp only[okD,List.all_eq_true] at h;exact Nat.eq_of_beq_eq_true (h p hp)
theorem argsB_rd (hc:CallSound cx call W F) (hr:HR cx.P W F E N h) (hρ:∀x,RdV cx.P W F E (ρ x) (a.eval x)):∀(ps:List Ty) (xs:List Operand) (x:El (tupU ps)) (taken lent:List Nat) (heads:List Cell),
  m0p cx call h ps (xs.map ρ)=some (x,taken,lent,heads)→∀D:Nat→Nat,(∀p∈u0o h ps (xs.map ρ),E.m p.2 (a0h h p.2)=some (.box (D p.1)))→∃O,b0s ps (xs.map a.eval)∧RdB cx.P D (tupU ps) x W (a0g F h E lent) O (cat (xs.map a.eval))∧Takes F h E taken O∧m0r cx.P W F E h ps heads (xs.map a.eval):=by
 intro ps;induction ps with
 | nil =>
  intro xs x taken lent heads hk D hD;cases xs with
  | nil =>
   simp only[List.map_nil,m0p,Option.some.injEq] at hk;obtain ⟨rfl,rfl,rfl,rfl⟩:=hk;exact ⟨[],trivial,rfl,Takes.nil,trivial⟩
  | cons y ys=>simp[m0p] at hk
 | cons p ps ih =>
  intro xs x taken lent heads hk D hD;cases xs with
  | nil=>simp[m0p] at hk
  | cons y ys =>
   have hv:=hρ y;simp only[List.map_cons] at hk ⊢;cases hy:ρ y with
   | tup l=>rw[hy] at hk;simp[m0p] at hk
   | undef=>rw[hy] at hk;simp[m0p] at hk
   | lost=>rw[hy] at hk;simp[m0p] at hk
   | v ag cs =>
    rw[hy] at hk hv;simp only[List.map_cons] at hD;rw[hy] at hD;simp only[m0p] at hk;split at hk
    case isFalse=>cases hk
    rename_i hag;cases h1:f0y cx call h p cs with
    | none=>rw[h1] at hk;cases hk
    | some z =>
     rw[h1] at hk;simp only[Option.bind_some] at hk;cases h2:m0p cx call h ps (ys.map ρ) with
     | none=>rw[h2] at hk;cases hk
     | some q =>
      rw[h2] at hk;simp only[Option.map_some,Option.some.injEq] at hk;obtain ⟨rfl,rfl,rfl,rfl⟩:=hk;obtain ⟨O1,k1,k2,k3⟩:=p0v hc hr (x:=z.1) (taken:=z.2.1) (lent:=z.2.2) h1 (fun p hp=>hD p (List.mem_append_left _ hp)) hv.1;obtain ⟨O2,m1,m2,m3,m4⟩:=ih ys q.1 q.2.1 q.2.2.1 q.2.2.2 h2 D (fun p hp=>hD p (List.mem_append_right _ hp));have hw:(a.eval y).cells.size=width p:=by simpa using k3
      refine ⟨O1++O2,⟨RdV1.formed hv hag hw,m1⟩,⟨O1,O2,rfl,RdB.congr p (fun j hj => ?_) (k1.later p (Later.same a0g.left) (fun _ _=>rfl)),?_⟩,k2.append hr m3,⟨?_,?_⟩,m4⟩
      ·rw[e0l hw j hj,one,Array.getElem?_toList]
      ·rw[f0l hw];exact m2.later (tupU ps) (Later.same a0g.right) (fun _ _=>rfl)
      ·intro n ver hback;have ha:ag=false:=hag.trans (by rcases hback with ⟨e,o,rfl | ⟨d,rfl⟩,_⟩ | ⟨e,rfl,_⟩ | ⟨e,o,l,rfl,_⟩<;>rfl);have hone:=hv.2.2 ha;have hcells:=oneCell_cells hone;cases cs with
       | nil=>rcases hback with ⟨e,o,_,hcell⟩ | ⟨e,_,hcell⟩ | ⟨e,o,l,_,hcell⟩<;>cases hcell
       | cons c r =>
        simp only[List.headD_cons] at hback;have hrd:=hv.1;rw[hcells] at hrd;obtain ⟨u,us,hu,q1,q2,q3⟩:=hrd.uncons;simp only[List.cons.injEq] at hu;obtain ⟨rfl,_⟩:=hu;refine ⟨hcells,q1,?_⟩;rcases hback with ⟨e,o,rfl | ⟨d,rfl⟩,rfl⟩ | ⟨e,rfl,rfl⟩ | ⟨e,o,l,rfl,rfl⟩
        ·unfold f0y at h1;simp only[b0b] at h1;split at h1
         ·rename_i ver' bt bs hn;split at h1
          ·rename_i hver;obtain ⟨_,L,l1,l2⟩:=hr.blk n ver' _ hn;refine ⟨by rw[g0h hn,←hver.1],L,by rw[hver.1];exact l1,?_⟩;obtain ⟨b,arr,T,rfl,_⟩:=l2;exact trivial
          ·simp at h1
         ·simp at h1
        ·unfold f0y at h1;simp only[b0b] at h1;split at h1
         ·rename_i ver' bt bs hn;split at h1
          ·rename_i hver;obtain ⟨_,L,l1,l2⟩:=hr.blk n ver' _ hn;refine ⟨by rw[g0h hn,←hver.1],L,by rw[hver.1];exact l1,?_⟩;obtain ⟨b,arr,T,rfl,_⟩:=l2;exact trivial
          ·simp at h1
         ·simp at h1
        ·unfold f0y at h1;simp only[b0b] at h1;split at h1
         ·rename_i ver' e' xs hn;split at h1
          ·rename_i hver;obtain ⟨_,L,l1,l2⟩:=hr.blk n ver' _ hn;refine ⟨by rw[g0h hn,←hver],L,by rw[hver];exact l1,?_⟩;rcases l2 with ⟨rfl,_⟩ | ⟨b,cap,rfl,hA,_⟩
           ·exact fun e2 _ _ _ _ he2=>by cases he2
           ·obtain ⟨cs',T,_,_,_,hcap,_⟩:=hA;refine ⟨hcap.2,fun e2 he2 => ?_,fun e2 _ _ _ _ he2=>by cases he2⟩;injection he2 with he2;subst he2;cases hce:b0p (a := .own e') (b := .own e) xs with
            | none=>rw[hce] at h1;simp at h1
            | some z =>
             obtain ⟨he,_⟩:=a0v hce;injection he with he;rw[he]
          ·simp at h1
         ·simp at h1
        ·unfold f0y at h1;simp only[b0b] at h1;split at h1
         ·rename_i ver' e' xs hn;split at h1
          ·rename_i hver;obtain ⟨_,L,l1,l2⟩:=hr.blk n ver' _ hn;refine ⟨by rw[g0h hn,←hver],L,by rw[hver];exact l1,?_⟩;rcases l2 with ⟨rfl,rfl⟩ | ⟨b,cap,rfl,hA,_⟩
           ·intro e2 v e'' xs2 fr _ hn2;rw[hn] at hn2;simp only[Option.some.injEq,Prod.mk.injEq,Blk.arr.injEq] at hn2;obtain ⟨_,rfl,hx2,_⟩:=hn2;exact (eq_of_heq hx2).symm
           ·obtain ⟨cs',T,_,_,_,hcap,_⟩:=hA;refine ⟨hcap.2,(fun e2 he2=>by cases he2),fun e2 v e'' xs2 fr _ hn2 => ?_⟩;rw[hn] at hn2;simp only[Option.some.injEq,Prod.mk.injEq,Blk.arr.injEq] at hn2;obtain ⟨_,rfl,hx2,_⟩:=hn2;rw[eq_of_heq hx2];exact ⟨rfl,rfl⟩
          ·simp at h1
         ·simp at h1
      ·have key:d1l p=true→(a.eval y).cells = #[a.eval y]:=fun hp=>oneCell_cells (hv.2.2 (hag.trans (e1c hp).1))
       refine ⟨key,?_⟩;intro n v0 ver base u x' ho fr hp hcell hn hb1 hb2;have hcells:=key hp;cases cs with
       | nil=>cases hcell
       | cons c r =>
        simp only[List.headD_cons] at hcell;subst hcell;have hrd:=hv.1;rw[hcells] at hrd;obtain ⟨w,us,hu,q1,q2,q3⟩:=hrd.uncons;simp only[List.cons.injEq] at hu;obtain ⟨rfl,_⟩:=hu;obtain ⟨_,L,l1,w',bs,rfl,g1,g2,g3,_⟩:=hr.blk n ver _ hn;obtain ⟨bs',hbs'⟩:=g3 v0 hb1 hb2;have hvw:a.eval y=w':=q1.2.2 _ hbs';refine ⟨a.eval y,by rw[one,hcells];rfl,g2,fun j hj hj' => ?_⟩;rw[hvw];exact g3 j hj hj'
theorem g1p {P:Program} {h0:Heap} {bt:List (Ty×Option Cell)} {vs:List Value} (hb:f0n P W F E h0 bt (cat vs)):∀(rs:List Ty) (ws:List Value),b0s rs ws →
  f0n P W F E h0 (rs.map (·,none)++bt) (cat (ws++vs)):=by
 intro rs;induction rs with
 | nil=>intro ws h;cases ws with
  | nil=>exact hb
  | cons=>exact h.elim
 | cons t rs ih =>
  intro ws h;cases ws with
  | nil=>exact h.elim
  | cons w ws =>
   show f0n P W F E h0 (rs.map (·,none)++bt) (fun j=>cat ((w::ws)++vs) (width t+j));rw[List.cons_append,f0l h.1.2.2];exact ih ws h.2
theorem outV_rs {P:Program}:∀(rs:List Ty) (ws:List Value) (bt:List (Ty×Option Cell)) (us:List Value) (vs:List (Bool×List Cell)),b0s rs ws→(∀x∈bt,x.2≠none)→OutV P W F E (rs.map (·,none)++bt) vs (cat (ws++us)) →
  vs.length=ws.length∧∀(j:Nat) p u,vs[j]? = some p→ws[j]? = some u→RdV1 P W F E p.1 p.2 u:=by
 intro rs;induction rs with
 | nil =>
  intro ws bt us vs h hbt ho;cases ws with
  | cons=>exact h.elim
  | nil =>
   have:vs=[]:=by
    simp only[List.map_nil,List.nil_append] at ho;generalize cat us=g at ho;induction bt generalizing g with
    | nil=>exact ho
    | cons e r ih =>
     obtain ⟨t,oc⟩:=e;cases oc with
     | none=>exact absurd rfl (hbt (t,none) (by simp))
     | some c=>exact ih (fun x hx=>hbt x (by simp[hx])) _ ho
   subst this;exact ⟨rfl,fun j p u hp=>by simp at hp⟩
 | cons t rs ih =>
  intro ws bt us vs h hbt ho;cases ws with
  | nil=>exact h.elim
  | cons w ws =>
   obtain ⟨cs,vs',rfl,⟨u,u1,u2,u3⟩,h3⟩:=ho;rw[List.cons_append,f0l h.1.2.2] at h3;obtain ⟨k1,k2⟩:=ih ws bt us vs' h.2 hbt h3;have hu:u=w.cells.toList:=by
    apply List.ext_getElem?;intro j;by_cases hj:j<width t
    ·rw[←u2 j hj,List.cons_append,e0l h.1.2.2 j hj,one,Array.getElem?_toList]
    ·have hw:=h.1.2.2;rw[List.getElem?_eq_none (by omega),List.getElem?_eq_none (by simp;omega)]
   subst hu;refine ⟨by simp[k1],fun j p q hp hq => ?_⟩;cases j with
   | zero =>
    simp at hp hq;subst hp;subst hq;exact ⟨u3,h.1.1,h.1.2.1⟩
   | succ j=>exact k2 j p q (by simpa using hp) (by simpa using hq)
theorem i1e {P:Program} {vs:List (Bool×List Cell)} {ws:List Value} (hl:vs.length=ws.length) (h:∀(j:Nat) p u,vs[j]? = some p→ws[j]? = some u→RdV1 P W F E p.1 p.2 u):RdV P W F E (resV vs) (q0s ws):=by
 unfold resV;split
 ·rename_i ag cs
  match ws,hl with
  | [w],_=>exact h 0 (ag,cs) w rfl rfl
 ·rename_i hne;have:ws.length≠1:=fun e=>by
   rw[e] at hl
   match vs,hl with
   | [(ag,cs)],_=>exact hne ag cs rfl
  unfold q0s;rw[if_neg this];exact ⟨ws,rfl,hl.symm,h⟩
theorem backs_rd {P:Program} {ps:List Ty} {heads:List Cell} {vs:List Value} (hh:m0r P W F E h ps heads vs) (hf:b0s ps vs):∀(back:List Nat),
  f0n P W F E h (back.filterMap fun i=>match ps[i]?,heads[i]? with | some p,some c=>some (p,some c) | _,_=>none) (cat (back.filterMap (vs[·]?))):=by
 have at_:∀(ps:List Ty) (heads:List Cell) (vs:List Value),m0r P W F E h ps heads vs→b0s ps vs→∀i:Nat,(ps[i]? = none∧heads[i]? = none∧vs[i]? = none)∨∃p c v,ps[i]? = some p∧heads[i]? = some c∧vs[i]? = some v∧HeadOk P W F E h p c v∧formed p v:=by
  intro ps;induction ps with
  | nil =>
   intro heads vs hh hf i
   match heads,vs,hh with
   | [],[],_=>exact .inl ⟨rfl,rfl,rfl⟩
  | cons p ps ih =>
   intro heads vs hh hf i
   match heads,vs,hh,hf with
   | c::heads,v::vs,hh,hf =>
    cases i with
    | zero=>exact .inr ⟨p,c,v,rfl,rfl,rfl,hh.1,hf.1⟩
    | succ i=>simpa using ih heads vs hh.2 hf.2 i
 intro back;induction back with
 | nil=>exact trivial
 | cons i r ih =>
  rcases at_ ps heads vs hh hf i with ⟨h1,h2,h3⟩ | ⟨p,c,v,h1,h2,h3,h4,h5⟩
  ·simpa [List.filterMap_cons,h1,h2,h3] using ih
  ·simp only[List.filterMap_cons,h1,h2,h3];refine ⟨⟨fun n ver hc => ?_,?_⟩,?_⟩
   ·obtain ⟨k1,k2,k3⟩:=h4.1 n ver hc;refine ⟨v,?_,k2,k3⟩;rw[e0l h5.2.2 0 (by rcases hc with ⟨e,o,hp | ⟨d,hp⟩,_⟩ | ⟨e,hp,_⟩ | ⟨e,o,l,hp,_⟩<;>rw[hp]<;>simp[width]),one,k1];rfl
   ·intro n v0 ver base u x ho fr hp hcell hn hb1 hb2;obtain ⟨w,q1,q2⟩:=h4.2.2 n v0 ver base u x ho fr hp hcell hn hb1 hb2;refine ⟨w,?_,q2⟩;rw[e0l h5.2.2 0 (by rw[(e1c hp).2];exact Nat.one_pos)];exact q1
   ·rw[f0l h5.2.2];exact ih
theorem op_call {o:Oper} {cl:Go.Call} {k:V→Ups→Option R} {r:R} {f:FuncId} (cc:Ctx cx call W F E N h ρ a) (hfn:FnOk cx call) (hK:KOk N h k) (ho:o.op = .call cl) (hcal:cl.callee = .value (.func f))
  (hk:g1h cx call fx h o f (cl.args.toList.map ρ) k=some r):a0r cx W F E N h a o k r:=by
 unfold g1h at hk;split at hk
 ·cases hk
 rename_i s hs;split at hk
 ·cases hk
 rename_i x taken lent heads hargs;split at hk
 case isFalse=>cases hk
 rename_i hnd;simp only at hk;split at hk
 ·cases hk
 rename_i x' hx';cases hy:call f x' with
 | none=>rw[hy] at hk;cases hk
 | some y =>
  rw[hy] at hk;simp only[Option.bind_some] at hk;split at hk
  ·cases hk
  rename_i y' hy';obtain ⟨ex,rfl⟩:=a0v hx';obtain ⟨ey,rfl⟩:=a0v hy';obtain ⟨hdl,hk⟩:=a0l hk;simp only[Bool.and_eq_true,List.all_eq_true] at hdl;obtain ⟨hok,hdl⟩:=hdl;have hdm:=argsB_dm (call:=call) cc.hr cc.ρ s.ps cl.args.toList x taken lent heads hargs
  let D:Nat→Nat:=fun k=>match E.m (x0j (u0o h s.ps (cl.args.toList.map ρ)) k) (a0h h (x0j (u0o h s.ps (cl.args.toList.map ρ)) k)) with
   | some (.box b)=>b
   | _=>0
  have hD:∀p∈u0o h s.ps (cl.args.toList.map ρ),E.m p.2 (a0h h p.2)=some (.box (D p.1)):=by
   intro p hp;obtain ⟨⟨b,hb⟩,_⟩:=hdm p hp;have hl:=z0j hok hp;rw[hb];simp only[D,hl,hb]
  obtain ⟨O,a1,a2,a3,a4⟩:=argsB_rd cc.hc cc.hr cc.ρ s.ps cl.args.toList x taken lent heads hargs D hD;have hnd':=l0c hnd;have hOnd:=a3.nodup hnd'.1;have hOF:∀b∈O,¬a0g F h E lent b:=by
   rintro b hb (hf | ⟨n,hn,hat⟩)
   ·exact a3.free b hb hf
   ·obtain ⟨m,hm,hat'⟩:=a3.at_ b hb;exact hnd'.2.2 m hm n hn (b0h cc.hr hat' hat)
  have hFp:∀b,a0g F h E lent b→b<W.heap.size:=fun b hb=>a0g.lt cc.hr cc.hF hb
  have hcalls:=hfn f s hs (ex ▸ x) y hy D W (a0g F h E lent) O (cl.args.toList.map a.eval) (cc.hc.glob.later (a0z lent)) hFp a1 (RdB.cast ex a2) hOnd hOF;obtain ⟨vs,u,hku,hout⟩:=outs_rd (P:=cx.P) h _ _ _ _ _ _ hk;obtain ⟨hck,hku⟩:=a0l hku;simp only[Bool.and_eq_true,List.all_eq_true] at hck;obtain ⟨hundup,hstay⟩:=hck;have hundup:(a0e u).Nodup:=f0z.1 hundup;obtain ⟨fn,hf1,hf2,hf3⟩:=cc.hc.fns.plain f s hs
  generalize hstayE:((s.back.filterMap fun i=>(heads[i]?).bind fun c=>(nameOf c)[0]?)++(s.back.flatMap fun (i:Nat)=>match (s.ps[i]? : Option Ty),((cl.args.toList.map ρ)[i]? : Option V) with | some (.ref e),some (.v _ (.loc n _ _::_))=>s0d h e (l0b h n) | _,_=>[]))=stay at hku hstay;generalize htk:(taken.filter fun n => !hasN stay n)=takes at hku;have hKu:=hK _ _ _ hku;have hsub:∀n∈takes,n∈taken:=fun n hn=>by rw[←htk,List.mem_filter] at hn;exact hn.1
  have hall:∀n∈taken,n∈takes∨n∈a0e u:=by
   intro n hn;by_cases hst:n∈stay
   ·exact .inr (b0r.1 (hstay n hst))
   ·left;rw[←htk,List.mem_filter];refine ⟨hn,?_⟩;cases hh:hasN stay n with
    | false=>rfl
    | true=>exact absurd (b0r.1 hh) hst
  refine ⟨_,_,hku,?_⟩;intro rd next Q hsem hnext;have hrun:(execOp a.eval o).run cx.P W = .ok (.enter f (cl.args.toList.map a.eval).toArray) W:=by
   have e1:(cl.args.toList.map a.eval).toArray=cl.args.map a.eval:=by
    apply Array.ext';simp
   rw[e1];have hf3':fn.body≠none:=fun e=>by rw[e] at hf3;cases hf3
   have hf2' : ¬ fn.name = "runtime.NumGoroutine" := by simpa using hf2
   simp[execOp,ho,resolve,hcal,Deferred.ofValue,Act.eval,invoke,callFunc,hf1,hf2',hf3']
  refine ⟨fun _ _=>trivial,?_⟩;rw[show (Rnd rd).round=rd from rfl,hsem,hrun,Oper.uponIn_enter];refine ⟨(fun k=>by cases k),p0l (Calls.mono hcalls fun e W' hpost => ?_)⟩;obtain ⟨v,F',rfl,hmove,ws,O',hws,rfl,hrd,hO'nd,hO'F,hO'⟩:=hpost;have hdmAt:∀e∈s.rs.map (·,none)++(s.back.filterMap fun i=>match s.ps[i]?,heads[i]? with | some p,some c=>some (p,some c) | _,_=>none),DmAt D ⟨x0j (u0o h s.ps (cl.args.toList.map ρ)),fun d=>a0h h (x0j (u0o h s.ps (cl.args.toList.map ρ)) d)⟩ h E e.1:=by
   intro e he d hd;have hm:=b0r.1 (hdl d (List.mem_flatMap.2 ⟨e,he,hd⟩));obtain ⟨p,hp,rfl⟩:=List.mem_map.1 hm;have hl:=z0j hok hp;simp only[hl];exact ⟨hD p hp,by first | rfl | trivial,(hdm p hp).2⟩
  have core:∀(ls:List Nat) (F2:Fz),(∀n∈ls,n ∉ taken)→(∀n∈a0e (c0k h takes++a0i h ls++u),N n∧n<h.length)→Later W (a0g F h E ls) W' F2 →
    (∀b,F2 b→a0g F h E ls b∨b∈O∨(W.heap.size≤b∧b<W'.heap.size))→RdB cx.P D (cx.out f) y W' F2 O' (cat (ws++s.back.filterMap ((cl.args.toList.map a.eval)[·]?)))→(∀b∈O',¬F2 b) →
    ∃E',OpPost cx.P W F E N h W' F2 E' (c0k h takes++a0i h ls++u)∧RdV cx.P W' F2 E' (resV vs) (q0s ws):=by
   intro ls F2 hls hN hl hfz hrd hOF2;have hnames:∀n,n∈a0e (c0k h takes++a0i h ls++u)↔n∈takes∨n∈a0e (a0i h ls)∨n∈a0e u:=by
    intro n;simp[a0e,c0k]
   have hNt:∀n∈taken,N n∧n<h.length:=fun n hn=>by
    rcases hall n hn with k | k
    ·exact hN n ((hnames n).2 (.inl k))
    ·exact hN n ((hnames n).2 (.inr (.inr k)))
   obtain ⟨m1,m2,_⟩:=k0z (P:=cx.P) (O':=O') cc.hr a3 hNt hl hmove.frame hfz hO';have hl1:Later W F W' F2:=(a0z ls).trans hl;have heads':m0r cx.P W' F2 E h s.ps heads (cl.args.toList.map a.eval):=a4.later hl1;have hback:=g1p (bt:=s.back.filterMap fun i=>match s.ps[i]?,heads[i]? with | some p,some c=>some (p,some c) | _,_=>none) (backs_rd heads' a1 s.back) s.rs ws hws;obtain ⟨E1,c1,c2⟩:=hout m1 (RdB.cast ey hrd) hO'nd hOF2 m2 hback
    (fun n hn=>by
     obtain ⟨q1,q2⟩:=hN n ((hnames n).2 (.inr (.inr hn)))
     exact ⟨q1,by rw[a0k,a0k];exact q2,a0y cc.hr q1 q2⟩) hundup hdmAt
   obtain ⟨E2,e1,hop⟩:=k0c cc.hr a3 hsub (by rw[←htk];exact hnd'.1.filter _) hall hls hl hmove.frame hfz hO' (fun b hb=>RdB.lt _ hrd b hb) hN c1;obtain ⟨z1,z2⟩:=outV_rs s.rs ws _ _ vs hws (fun x hx=>by
    rw[List.mem_filterMap] at hx;obtain ⟨i,_,hi⟩:=hx;split at hi
    ·injection hi with hi;subst hi;simp
    ·cases hi) (c2.mono e1)
   exact ⟨E2,hop,i1e z1 z2⟩
  cases hsh:shares (cx.out f) with
  | true =>
   rw[hsh] at hku hKu hnext;simp only[if_true] at hKu hnext;obtain ⟨E',hop,hv⟩:=core lent F' (fun n hn hn'=>hnd'.2.2 n hn' n hn rfl) hKu hmove.later hmove.fz hrd hO'F;exact hnext _ _ _ _ hop hv
  | false =>
   rw[hsh] at hku hKu hnext;simp only[Bool.false_eq_true,if_false] at hKu hnext;obtain ⟨E',hop,hv⟩:=core [] F (by simp) hKu (by rw[a0j];exact ⟨hmove.later.os,hmove.later.tape,hmove.later.output,hmove.later.size,fun b hb=>hmove.later.keep b (.inl hb),fun _ hb=>hb⟩)
    (fun b hb => .inl (by rw[a0j];exact hb)) (hrd.noshare _ hsh) (fun b hb hf=>hO'F b hb (hmove.later.more b (.inl hf)))
   exact hnext _ _ _ _ hop hv
theorem run_sub64 {P:Program} (x y c:Int) (hx:0≤x) (hy:0≤y) (hy':y<18446744073709551616) (hc0:0≤c) (hc:c≤1) (w:World) :
  (sub64Entry #[.int .u64 x,.int .u64 y,.int .u64 c]).run P w =
   .ok (.tuple #[.int .u64 ((x-y-c) % 18446744073709551616),.int .u64 (if x<y+c then 1 else 0)]) w:=by
 have key:∀k:Nat,k≤1→(sub64Entry #[.int .u64 x,.int .u64 y,.int .u64 (k:Int)]).run P w =
   .ok (Extern.MathBitsCarry.pair ((x.toNat+Extern.MathBitsCarry.m64-y.toNat-k) % Extern.MathBitsCarry.m64) (if x.toNat<y.toNat+k then 1 else 0)) w:=by
  intro k hk;have:k=0∨k=1:=by omega
  rcases this with rfl | rfl<;>rfl
 obtain ⟨k,rfl⟩:=Int.eq_ofNat_of_zero_le hc0;rw[key k (by omega)];obtain ⟨X,rfl⟩:=Int.eq_ofNat_of_zero_le hx;obtain ⟨Y,rfl⟩:=Int.eq_ofNat_of_zero_le hy;simp only[Extern.MathBitsCarry.pair,Extern.MathBitsCarry.m64,Int.toNat_natCast];congr 4
 ·simp;omega
 ·by_cases h:X<Y+k
  ·rw[if_pos h,if_pos (by omega)];rfl
  ·rw[if_neg h,if_neg (by omega)];rfl
theorem op_ext {o:Oper} {cl:Go.Call} {k:V→Ups→Option R} {r:R} {f:FuncId} {e:Nat} (cc:Ctx cx call W F E N h ρ a) (ho:o.op = .call cl) (hcal:cl.callee = .value (.func f)) (he:cx.ext f=some e)
  (hk:extK e (cl.args.toList.map ρ) k=some r):a0r cx W F E N h a o k r:=by
 obtain ⟨fn,ent,h1,h2,h3,h4,h5,h6⟩:=cc.hc.fns.ext f e he;have hrun:∀args v,cl.args.toList.map a.eval=args→(ent args.toArray).run cx.P W = .ok v W→(execOp a.eval o).run cx.P W = .ok (.value v) W:=by
  intro args v hargs hv;have e1:cl.args.map a.eval=args.toArray:=by
   rw[←hargs];apply Array.ext';simp
  have hc:=run_callFunc_extern h1 h2 h3 h4 h5 args.toArray W;rw[hv] at hc;simp only[Result.andThen] at hc;simp[execOp,ho,resolve,hcal,Deferred.ofValue,Act.eval,invoke,e1,hc]
 have three:∀x y c,cl.args.toList.map ρ=[.v false [.val (.int .u64) x],.v false [.val (.int .u64) y],.v false [.val (.int .u64) c]]→cl.args.toList.map a.eval=[.int .u64 x,.int .u64 y,.int .u64 c]:=by
  intro x y c hx;have hρ:=cc.ρ;generalize cl.args.toList=l at hx ⊢;rcases l with _ | ⟨p,_ | ⟨q,_ | ⟨s,_ | ⟨z,r⟩⟩⟩⟩
  case cons.cons.cons.nil =>
   simp only[List.map_cons,List.map_nil,List.cons.injEq,and_true] at hx ⊢;obtain ⟨hp,hq,hs⟩:=hx;have one:∀z n,ρ z = .v false [.val (.int .u64) n]→a.eval z = .int .u64 n:=by
    intro z n hz;have:=hρ z;rw[hz] at this;have h8:=oneCell_cells (this.2.2 rfl);have h9:=this.1;rw[h8] at h9;obtain ⟨u,us,hu,q1,_⟩:=h9.uncons;simp only[List.cons.injEq] at hu;rw[hu.1];have:=q1.2.2
    simpa [Rd,RdP] using this
   exact ⟨one _ _ hp,one _ _ hq,one _ _ hs⟩
  all_goals simp at hx
 have two:∀ {F2:Fz} {E2:EnvM} (p q:Int),RdV cx.P W F2 E2 (.tup [(false,[.val (.int .u64) p]),(false,[.val (.int .u64) q])]) (.tuple #[.int .u64 p,.int .u64 q]):=by
  intro F2 E2 p q;refine ⟨[.int .u64 p,.int .u64 q],rfl,rfl,fun j x u hx hu => ?_⟩;have one:∀n:Int,RdV1 cx.P W F2 E2 false [.val (.int .u64) n] (.int .u64 n):=fun n=>RdV.mk1 (c := .val (.int .u64) n) ⟨rfl,rfl,rfl⟩ rfl
  match j with
  | 0=>simp at hx hu;subst hx;subst hu;exact one p
  | 1=>simp at hx hu;subst hx;subst hu;exact one q
  | j+2=>simp at hx
 unfold extK at hk;split at hk
 ·rename_i k' x y c hargs;obtain ⟨hm,hk⟩:=a0l hk;simp only[Bool.and_eq_true,decide_eq_true_eq] at hm;injection h6 with h6;subst h6;have:=hrun _ _ (three x y c hargs) (run_add64 x y c hm.1 hm.2.1 hm.2.2.1 hm.2.2.2 W);exact ⟨_,_,hk,OpOk.of this (OpPost.grow (ns:=[]) cc.hr cc.hF (Grow.refl W _)) (two _ _)⟩
 ·rename_i k' x y c hargs;obtain ⟨hm,hk⟩:=a0l hk;simp only[Bool.and_eq_true,decide_eq_true_eq] at hm;injection h6 with h6;subst h6;have:=hrun _ _ (three x y c hargs) (run_sub64 x y c hm.1.1 hm.1.2 hm.2.1 hm.2.2.1 hm.2.2.2 W);exact ⟨_,_,hk,OpOk.of this (OpPost.grow (ns:=[]) cc.hr cc.hF (Grow.refl W _)) (two _ _)⟩
 ·cases hk
end
end Go.Flat
end
section
namespace Go.Flat
open Go.RowKit (Below)
section
variable {cx:Cx} {call:Oracle cx} {fx:Hints} {W W':World} {F F':Fz} {E E':EnvM} {h:Heap} {N:Nat→Prop} {ρ:Operand→V} {a:Act} {R:Type}
theorem argsC_rd (hc:CallSound cx call W F) (hr:HR cx.P W F E N h) (hρ:∀x,RdV cx.P W F E (ρ x) (a.eval x)):∀(t:Ty) (xs:List Operand) (x:El t) (lent:List Nat),
  q0l cx call h t (xs.map ρ)=some (x,lent)→d0k cx.P t x W (a0g F h E lent) (xs.map a.eval):=by
 intro t;induction t with
 | unit =>
  intro xs x lent hk;cases xs with
  | nil=>exact rfl
  | cons y ys=>simp[q0l] at hk
 | pair p q _ ihq =>
  intro xs x lent hk;cases xs with
  | nil=>simp[q0l] at hk
  | cons y ys =>
   have hv:=hρ y;simp only[List.map_cons] at hk ⊢;cases hy:ρ y with
   | tup l=>rw[hy] at hk;simp[q0l] at hk
   | undef=>rw[hy] at hk;simp[q0l] at hk
   | lost=>rw[hy] at hk;simp[q0l] at hk
   | v ag cs =>
    rw[hy] at hk hv;simp only[q0l] at hk;split at hk
    case isFalse=>cases hk
    rename_i hag;cases h1:m0y cx call h p cs with
    | none=>rw[h1] at hk;cases hk
    | some z =>
     rw[h1] at hk;simp only[Option.bind_some] at hk;cases h2:q0l cx call h q (ys.map ρ) with
     | none=>rw[h2] at hk;cases hk
     | some w =>
      rw[h2] at hk;simp only[Option.map_some,Option.some.injEq,Prod.mk.injEq] at hk;obtain ⟨rfl,rfl⟩:=hk;obtain ⟨k1,k2⟩:=n0z hc hr (x:=z.1) (ns:=z.2) h1 hv.1;have hw:(a.eval y).cells.size=width p:=by simpa using k2
      refine ⟨_,_,rfl,RdV1.formed hv hag hw,Rd.congr p (fun j hj => ?_) (k1.later (Later.same a0g.left)),(ihq ys w.1 w.2 h2).later (Later.same a0g.right)⟩;simp[one]
 | _=>intro xs x lent hk;cases xs<;>simp[q0l] at hk
theorem toV_rd {P:Program} {t:Ty} {x:El t} {v:Value} (hf:formed t v) (hx:Rd P t x W F (one v)):RdV P W F E (toV t x) v:=by
 obtain ⟨vs,h1,h2,h3⟩:=h0x (E:=E) t x _ hx;have hvs:vs=v.cells.toList:=by
  apply List.ext_getElem?;intro j;by_cases hj:j<width t
  ·rw[←h2 j hj,one,Array.getElem?_toList]
  ·have:=hf.2.2;rw[List.getElem?_eq_none (by omega),List.getElem?_eq_none (by simp;omega)]
 subst hvs;exact ⟨h3,hf.1,hf.2.1⟩
theorem o0u {o:Oper} {cl:Go.Call} {k:V→Ups→Option R} {res:R} {z:Operand} {t r:Ty} {p:El t→Option (El r)} {x:El t} {y:El r} {lent:List Nat} (cc:Ctx cx call W F E N h ρ a) (ho:o.op = .call cl)
  (hcal:cl.callee = .value z) (hp:Rd cx.P (.fn t r) p W F (fun j=>if j=0 then some (a.eval z) else none)) (hargs:q0l cx call h t (cl.args.toList.map ρ)=some (x,lent)) (hy:p x=some y)
  (hk:k (toV r y) (a0i h (if shares r=true then lent else []))=some res):a0r cx W F E N h a o k res:=by
 obtain ⟨f,caps,hv,hpl,hcalls⟩:=hp;simp at hv;have hx:=argsC_rd cc.hc cc.hr cc.ρ t cl.args.toList x lent hargs;have hFp:∀b,a0g F h E lent b→b<W.heap.size:=fun b hb=>a0g.lt cc.hr cc.hF hb
 have hcall:=hcalls W (a0g F h E lent) _ x y (a0z lent) hFp hx hy;obtain ⟨fn,hf1,hf2,hf3⟩:=hpl;refine ⟨_,_,hk,?_⟩;intro rd next Q hsem hnext;have hrun:(execOp a.eval o).run cx.P W = .ok (.enter f ((cl.args.toList.map a.eval).toArray++caps)) W:=by
  have e1:(cl.args.toList.map a.eval).toArray=cl.args.map a.eval:=by
   apply Array.ext';simp
  rw[e1];have hf3':fn.body≠none:=fun e=>by rw[e] at hf3;cases hf3
  have hf2' : ¬ fn.name = "runtime.NumGoroutine" := by simpa using hf2
  simp[execOp,ho,resolve,hcal,hv,Deferred.ofValue,invoke,callFunc,hf1,hf2',hf3']
 refine ⟨fun _ _=>trivial,?_⟩;rw[show (Rnd rd).round=rd from rfl,hsem,hrun,Oper.uponIn_enter];refine ⟨(fun k=>by cases k),p0l (Calls.mono hcall fun e W' hpost => ?_)⟩;obtain ⟨v,F',rfl,hg,hfm,hrd⟩:=hpost;cases hsh:shares r with
 | true =>
  rw[hsh] at hnext;simp only[if_true] at hnext;exact hnext v W' F' E (OpPost.grow cc.hr cc.hF hg) (toV_rd hfm hrd)
 | false =>
  rw[hsh] at hnext;simp only[Bool.false_eq_true,if_false] at hnext;have hg2:Grow W (a0g F h E []) W' F:=by
   rw[a0j];exact ⟨hg.below,fun _ hb=>hb,fun _ hb => .inl hb⟩
  exact hnext v W' F E (OpPost.grow cc.hr cc.hF hg2) (toV_rd hfm (Rd.noshare r hsh hrd))
theorem op_callV {o:Oper} {cl:Go.Call} {k:V→Ups→Option R} {res:R} {z:Operand} {c:Cell} (cc:Ctx cx call W F E N h ρ a) (ho:o.op = .call cl) (hcal:cl.callee = .value z) (hz:ρ z = .v false [c])
  (hk:g1g cx call h c (cl.args.toList.map ρ) k=some res):a0r cx W F E N h a o k res:=by
 have hv:=cc.ρ z;rw[hz] at hv
 replace hv:=hv.single.1
 unfold g1g at hk;split at hk
 ·rename_i t r p;split at hk
  case isFalse=>cases hk
  split at hk
  case h_2=>cases hk
  rename_i x lent hargs;cases hy:p x with
  | none=>rw[hy] at hk;cases hk
  | some y =>
   rw[hy] at hk;exact o0u cc ho hcal hv.2.2 hargs hy hk
 ·rename_i f ct cv;split at hk
  case h_2=>cases hk
  rename_i s hs;split at hk
  case h_2=>cases hk
  rename_i r hr;simp only at hk;split at hk
  case h_2=>cases hk
  rename_i p hp;split at hk
  case h_2=>cases hk
  rename_i x lent hargs;cases hy:p x with
  | none=>rw[hy] at hk;cases hk
  | some y =>
   rw[hy] at hk;obtain ⟨caps,hv,hcap⟩:=hv;refine o0u cc ho hcal ?_ hargs hy hk;rw[hv];exact d1y cc.hc hp hcap
 ·cases hk
def keyD:Ty→Option TypeDesc
 | .str=>some .string
 | .int kd=>some (.int kd)
 | _=>none
theorem e0y {k:Ty} {x:El k} {v:Value} {d:TypeDesc} (h:keyV k x=some v) (hd:keyD k=some d):MapKept.IsKey d v:=by
 cases k<;>first | (cases hd;done) | skip
 case int kd =>
  cases hd;simp only[keyV,Option.some.injEq] at h;subst h;rfl
 case str =>
  cases hd;simp only[keyV,Option.some.injEq] at h;subst h;trivial
theorem b1r {kt:TypeId} {k:Ty} (ht:e0d cx) (h:z0o cx kt k=true):∃d,keyD k=some d∧cx.P.underlying kt=some d:=by
 unfold z0o at h;have hs:∀s,cx.shp kt=s→s = .other∨shpB cx.P kt s=true:=by
  intro s hs;unfold Cx.shp at hs;cases hi:cx.info kt with
  | none=>rw[hi] at hs;exact .inl hs.symm
  | some i=>rw[hi] at hs;right;rw[←hs];exact (ht kt i hi).shp
 split at h
 case h_3=>cases h
 ·rename_i hsh;rcases hs _ hsh with k | k
  ·cases k
  ·unfold shpB at k;split at k<;>first | (cases k;done) | skip
   all_goals first | (rename_i e1 _;cases e1;done) | skip
   all_goals first | (rename_i e1 e2;exact ⟨_,rfl,e2⟩) | skip
   all_goals (rename_i e1;cases e1)
 ·rename_i kd kd' hsh;have hkd:kd=kd':=by simpa using h
  subst hkd;rcases hs _ hsh with k | k
  ·cases k
  ·unfold shpB at k;cases hu:cx.P.underlying kt with
   | none=>rw[hu] at k;cases k
   | some d =>
    rw[hu] at k;cases d<;>first | (cases k;done) | skip
    have:=of_decide_eq_true k;subst this;exact ⟨_,rfl,rfl⟩
theorem b1q {P:Program} {k:Ty} {x:El k} {v:Value} {d:TypeDesc} (hd:keyD k=some d) (h:b0q P W F E (.val k x) v):keyV k x=some v:=by
 have h:=h.2.2;cases k<;>first | (cases hd;done) | skip
 case int kd =>
  have:=h;simp only[Rd,RdP] at this;simp[keyV] at this ⊢
  first | exact this.symm | exact this.1.symm | (obtain ⟨q,_⟩:=this;exact q.symm)
 case str =>
  have:=h;simp only[Rd,RdP] at this;simp[keyV] at this ⊢
  first | exact this.symm | exact this.1.symm | (obtain ⟨q,_⟩:=this;exact q.symm)
theorem a1v {k:Ty} {x y:El k} {u v:Value} {d:TypeDesc} (hd:keyD k=some d) (hu:keyV k x=some u) (hv:keyV k y=some v):Instr.sameNow d u v=some (z0p k x y):=by
 cases k<;>first | (cases hd;done) | skip
 case int kd =>
  cases hd;simp only[keyV,Option.some.injEq] at hu hv;subst hu;subst hv;simp only[Instr.sameNow,z0p,if_true];congr 1
 case str =>
  cases hd;simp only[keyV,Option.some.injEq] at hu hv;subst hu;subst hv;simp only[Instr.sameNow,z0p,Option.some.injEq];rw[Bool.eq_iff_iff,MapKept.bytes_beq];constructor
  ·intro e;injection e with e;have:=congrArg Array.toList e;have e2:x=y:=by simpa using this
   rw[e2];exact beq_self_eq_true y
  ·intro e;have e2:x=y:=eq_of_beq e;rw[e2]
theorem m0l {k e:Ty} {x:El k} {u:Value} {d:TypeDesc} (hd:keyD k=some d) (hu:keyV k x=some u):∀(xs:List (El k×El e)) (es:List MapEntry) (i0:Nat),es.length=xs.length →
  (∀i (h:i<xs.length),∃en,es[i]? = some en∧keyV k xs[i].1=some en.key) →
  (mget k e xs x i0=none∧Instr.findNow d u es i0=some none)∨∃j p en,xs[j]? = some p∧es[j]? = some en∧mget k e xs x i0=some (i0+j,p.2)∧Instr.findNow d u es i0=some (some (i0+j,en.val))∧en.key=u:=by
 intro xs;induction xs with
 | nil=>intro es i0 hl _;cases es with
  | nil=>exact .inl ⟨rfl,rfl⟩
  | cons=>cases hl
 | cons p r ih =>
  intro es i0 hl hk;cases es with
  | nil=>cases hl
  | cons en es =>
   obtain ⟨en',h1,h2⟩:=hk 0 (by simp);simp only[List.getElem?_cons_zero,Option.some.injEq] at h1;subst h1;have hsn:=a1v hd hu h2;simp only[List.getElem_cons_zero] at hsn;obtain ⟨y,z⟩:=p;cases hq:z0p k x y with
   | true =>
    rw[hq] at hsn;refine .inr ⟨0,(y,z),en,rfl,rfl,by simp[mget,hq],by simp[Instr.findNow,hsn],?_⟩;obtain ⟨rr,hr1,hr2⟩:=MapKept.sameNow_of_keys (e0y hu hd) (e0y h2 hd);rw[hsn] at hr1;injection hr1 with hr1;exact (hr2.1 hr1.symm).symm
   | false =>
    rw[hq] at hsn;rcases ih es (i0+1) (by simpa using hl) (fun i hi=>by have:=hk (i+1) (by simp;omega);simp only[List.getElem?_cons_succ] at this;exact this) with ⟨k1,k2⟩ | ⟨j,p,en2,k1,k2,k3,k4,k5⟩
    ·exact .inl ⟨by simp[mget,hq,k1],by simp[Instr.findNow,hsn,k2]⟩
    ·exact .inr ⟨j+1,p,en2,by simpa using k1,by simpa using k2,by simp[mget,hq,k3];omega,by simp[Instr.findNow,hsn,k4];omega,k5⟩
theorem v0i {P:Program} {t kt et:TypeId} {d:TypeDesc} {b:Nat} {es:Array MapEntry} {clock:Nat} {key z:Value} {q:Option (Nat×Value)} (ht:P.underlying t=some (.map kt et)) (hd:P.underlying kt=some d) (hk:MapKept.IsKey d key)
  (hb:W.heap[b]? = some (.map es clock)) (hf:Instr.findNow d key es.toList 0=some q) (hz:(zeroValue et).run P W = .ok z W) :
  (Instr.lookup t (.map (some b)) key false).run P W = .ok (match q with | some y=>y.2 | none=>z) W:=by
 cases q with
 | none=>simp[Instr.lookup,run_underlying ht,MapKept.run_getObj_map hb,MapKept.run_checkKey hd hk,MapKept.run_findKey hd hf,hz,Result.andThen]
 | some y=>simp[Instr.lookup,run_underlying ht,MapKept.run_getObj_map hb,MapKept.run_checkKey hd hk,MapKept.run_findKey hd hf,Result.andThen]
theorem y0n {P:Program} {t kt et:TypeId} {d:TypeDesc} {b:Nat} {es:Array MapEntry} {clock:Nat} {key z:Value} {q:Option (Nat×Value)} (ht:P.underlying t=some (.map kt et)) (hd:P.underlying kt=some d) (hk:MapKept.IsKey d key)
  (hb:W.heap[b]? = some (.map es clock)) (hf:Instr.findNow d key es.toList 0=some q) (hz:(zeroValue et).run P W = .ok z W) :
  (Instr.lookup t (.map (some b)) key true).run P W = .ok (.tuple #[(match q with | some y=>y.2 | none=>z),.bool q.isSome]) W:=by
 cases q with
 | none=>simp[Instr.lookup,run_underlying ht,MapKept.run_getObj_map hb,MapKept.run_checkKey hd hk,MapKept.run_findKey hd hf,hz,Result.andThen]
 | some y=>simp[Instr.lookup,run_underlying ht,MapKept.run_getObj_map hb,MapKept.run_checkKey hd hk,MapKept.run_findKey hd hf,Result.andThen]
theorem e1w {o:Oper} {k:V→Ups→Option R} {r:R} {t:TypeId} {kt e:Ty} (cc:Ctx cx call W F E N h ρ a) (hK:KOk N h k) (ho:o.op = .makeMap t none)
  (hk:k (.v false [.sl (nmOf fx o) (a0h h (nmOf fx o)+1)]) [(nmOf fx o,a0h h (nmOf fx o)+1,some (.sealed (nmOf fx o) (a0h h (nmOf fx o)+1) (a0h h (nmOf fx o)+1) (.mp kt e) [] none false))]=some r):a0r cx W F E N h a o k r:=by
 obtain ⟨hN,hlt⟩:=hK _ _ _ hk (nmOf fx o) (by simp[a0e]);have hvt:=a0y cc.hr hN hlt;have hmp:o0g kt ([]:List (El kt×El e)) (W.alloc (.map #[] 0)) [W.heap.size] (.map (some W.heap.size)) (fun _ y O u=>formed e u∧RdB cx.P D0 e y (W.alloc (.map #[] 0)) F O (one u)) :=
  ⟨W.heap.size,#[],0,[],rfl,j0h W _,rfl,rfl,rfl,fun i hi=>by simp at hi⟩
 have hsize:(W.alloc (.map #[] 0)).heap.size=W.heap.size+1:=by
  show (W.heap.push _).size=_;simp
 have hpost:=OpPost.turn (P:=cx.P) (W':=W.alloc (.map #[] 0)) (F':=F) (E':=E.next (nmOf fx o) (some (.tree (.map (some W.heap.size)) [W.heap.size]))) (ver':=a0h h (nmOf fx o)+1)
  (B := .sealed (nmOf fx o) (a0h h (nmOf fx o)+1) (a0h h (nmOf fx o)+1) (.mp kt e) [] none false) (ns:=[]) (row:=none) cc.hr cc.hF hN hlt (EnvM.next_le _ _ _) (by rw[hvt];exact EnvM.next_top _ _ _) (fun m hm=>EnvM.next_other _ _ _ m hm)
  ⟨rfl,rfl,rfl,by rw[hsize];omega,fun k hk _=>f0p _ _ k hk⟩ (fun b hb=>by cases hb) (fun b hb=>by rw[a0j] at hb;exact hb) (fun b hb => .inl (by rw[a0j];exact hb))
  ⟨_,by rw[hvt];exact EnvM.next_m _ _ _,⟨_,_,rfl,by rw[hvt];exact EnvM.next_m _ _ _,by rw[hvt,EnvM.next_top];exact Nat.le_refl _,fun j hj hj'=>by
   have:j=E.top (nmOf fx o)+1:=by omega
   subst this;exact ⟨_,EnvM.next_m _ _ _⟩,fun b hb=>by simp at hb;omega,fun _=>⟨by simp only[f0m];exact hmp,by simp,fun b hb hf=>by
   simp at hb;subst hb
   have:=cc.hF _ hf;omega⟩⟩,fun x hx => .inr (by
   have:x=W.heap.size:=by simpa [Loc.has] using hx
   omega)⟩
 refine ⟨_,_,hk,OpOk.of (v := .map (some W.heap.size)) ?_ hpost (RdV.mk1 ⟨?_,⟨.tree (.map (some W.heap.size)) [W.heap.size],?_⟩,fun L hL => ?_⟩ rfl)⟩
 ·simp[execOp,ho,Instr.makeMap]
 ·rw[hvt,EnvM.next_top];exact Nat.le_refl _
 ·rw[hvt,EnvM.next_m]
 ·rw[hvt,EnvM.next_m] at hL;injection hL with hL;subst hL;rfl
theorem m0j:∀(Os:List (List Nat)) (j:Nat) (O:List Nat),Os[j]? = some O→Os.flatten.Perm (O++(Os.set j []).flatten):=by
 intro Os;induction Os with
 | nil=>intro j O h;simp at h
 | cons Q Os ih =>
  intro j O h;cases j with
  | zero=>simp at h;subst h;simp
  | succ j =>
   simp only[List.set_cons_succ,List.flatten_cons];exact (List.Perm.append_left Q (ih j O (by simpa using h))).trans (List.perm_append_comm_assoc _ _ _)
theorem i1s {o:Oper} {k:V→Ups→Option R} {r:R} {t kt et:TypeId} {x i:Operand} {n v0 ver base:Nat} {ck e:Ty} {xs:List (El ck×El (.ref e))} {key:El ck} (cc:Ctx cx call W F E N h ρ a) (hK:KOk N h k) (ho:o.op = .lookup t x i false)
  (hs:cx.shp t = .map kt et) (hx:ρ x = .v false [.sl n v0]) (hi:ρ i = .v false [.val ck key]) (hn:h[n]? = some (ver,some (.sealed n base ver (.mp ck (.ref e)) xs none false))) (hb1:base≤v0) (hb2:v0≤ver)
  (hok:z0o cx kt ck=true) (hp:isPtr (cx.ty et)=true) (hk:b1o fx h o n ver base ck e xs key k=some r):a0r cx W F E N h a o k r:=by
 obtain ⟨d,hd1,hd2⟩:=b1r cc.tab hok;have ht:cx.P.underlying t=some (.map kt et):=by
  unfold Cx.shp at hs;cases hi:cx.info t with
  | none=>rw[hi] at hs;cases hs
  | some q =>
   rw[hi] at hs;have h1:=(cc.tab t q hi).shp;dsimp only at hs;rw[hs] at h1;unfold shpB at h1;cases hu:cx.P.underlying t with
   | none=>rw[hu] at h1;cases h1
   | some d' =>
    rw[hu] at h1;cases d'<;>first | (cases h1;done) | skip
    simp only[Bool.and_eq_true] at h1;rw[Nat.eq_of_beq_eq_true h1.1,Nat.eq_of_beq_eq_true h1.2]
 have hz:(zeroValue et).run cx.P W = .ok (.pointer none) W:=by
  cases hte:cx.ty et with
  | none=>rw[hte] at hp;cases hp
  | some c =>
   rw[hte] at hp;cases c<;>first | (cases hp;done) | skip
   obtain ⟨ti,h1,h2,z,h3,h4,h5⟩:=(k0k cc.tab hte).ti;have hz1:z = .pointer none:=by
    have hrd:=(e0r (P:=cx.P) (W:=W) (F:=F) (E:=E) h4);simp only[zeroCells] at hrd;have hc:z.cells = #[z]:=by
     cases z<;>first | rfl | skip
     have:=h5.2 ⟨_,rfl⟩;simp[agg] at this
    rw[hc] at hrd;exact (hrd.2 0 _ _ rfl rfl).1
   subst hz1;simp[zeroValue,typeInfo,h1,h3]
 have hvx:=cc.ρ x;rw[hx] at hvx;have hvi:=cc.ρ i;rw[hi] at hvi;obtain ⟨bs,hm,hnd,hfree,hat,htop,hheads⟩:=z0i cc.hr hn hb1 hb2 hvx;have hkv:keyV ck key=some (a.eval i):=by
  have hone:=hvi.2.2 rfl;have hrd:=hvi.1;rw[oneCell_cells hone] at hrd;exact b1q hd1 (hrd.2 0 _ _ rfl rfl).1
 obtain ⟨b,es,clock,Os,e1,e2,e3,e4,rfl,e5⟩:=hm;have hrun:∀q,Instr.findNow d (a.eval i) es.toList 0=some q→(execOp a.eval o).run cx.P W = .ok (.value (match q with | some y=>y.2 | none => .pointer none)) W:=by
  intro q hq;simp[execOp,ho,e1,v0i ht hd2 (e0y hkv hd1) e2 hq hz,Result.andThen];cases q<;>rfl
 rcases m0l (e := .ref e) hd1 hkv xs es.toList 0 (by simpa using e3) (fun i hi=>by
   obtain ⟨en,O,k1,_,k3,_⟩:=e5 i hi
   exact ⟨en,by simpa using k1,k3⟩) with ⟨m1,m2⟩ | ⟨j,p,en,m1,m2,m3,m4,m5⟩
 ·unfold b1o at hk;rw[m1] at hk;exact a0r.value cc hk (hrun _ m2) (RdV.mk1 rfl rfl)
 ·unfold b1o at hk;rw[m3] at hk;simp only[Nat.zero_add,b0n] at hk;obtain ⟨hnoTk,hk⟩:=a0l hk;split at hk
  case h_2=>cases hk
  rename_i c hc;obtain ⟨hnb,hk⟩:=a0l hk;have hnb:=f0z.1 hnb;rw[List.nodup_cons] at hnb;have hKn:=hK _ _ _ hk;obtain ⟨hjl,hjx⟩:=List.getElem?_eq_some_iff.1 m1;obtain ⟨en',O,q1,q2,q3,q4,q5⟩:=e5 j hjl;have hen:en'=en:=by
   have:=(Array.getElem?_toList (xs:=es) (i:=j)).symm.trans m2;rw[q1] at this;injection this
  subst hen;rw[hjx] at q5;have hperm:=m0j Os j O q2;rw[List.nodup_cons] at hnd;have hnd2:(O++(Os.set j []).flatten).Nodup:=hperm.nodup_iff.1 hnd.2;rw[List.nodup_append] at hnd2;have hN:=hKn n (by simp[a0e]);have hT:Takes F h E [n] (b::Os.flatten):=⟨fun c hc=>⟨n,by simp,hat c hc⟩,hfree,fun _=>List.nodup_cons.2 hnd⟩;obtain ⟨z1,z2,z3⟩:=k0z (P:=cx.P) (W':=W) (F2:=a0g F h E []) (O':=b::Os.flatten) (ls:=[]) cc.hr hT (fun m hm=>by simp at hm;subst hm;exact hN) (Later.refl W _) (fun _ _ _=>rfl) (fun b hb => .inl hb) (fun b hb => .inl hb)
  have hmem:∀c∈O,c∈b::Os.flatten:=fun c hc=>List.mem_cons_of_mem _ (hperm.mem_iff.2 (List.mem_append.2 (.inl hc)))
  obtain ⟨E1,c1,us,u1,u2,u3⟩:=f0q (P:=cx.P) (D:=D0) h dm0 (.ref e) p.2 [] (nmOf fx o) (O:=O) (g:=one en'.val) z1 (by rw[a0j];exact q5) hnd2.1 (fun c hc=>by rw[a0j];exact hfree c (hmem c hc)) (fun c hc=>z2 c (hmem c hc))
   (fun m hm=>by
    obtain ⟨g1,g2⟩:=hKn m (by
     simp only[a0e,List.map_cons,List.mem_cons,List.map_map];right;obtain ⟨y,hy,rfl⟩:=List.mem_map.1 hm
     exact List.mem_map.2 ⟨y,hy,rfl⟩)
    exact ⟨g1,by rw[a0k,a0k];exact g2,a0y cc.hr g1 g2⟩) hnb.2 (DmAt.none (by exact hnoTk))
  have htop1:E1.top n=E.top n:=c1.tops n hnb.1;have hus:us=[en'.val]:=by
   have h0:=u2 0 (by simp[width]);have hl:us.length=1:=by simpa [width] using u1
   match us,hl with
   | [w],_ =>
    have hcell:=oneCell_cells (q4.2.1 rfl);rw[one,hcell] at h0
    simpa using h0.symm
  rw[hus,hc] at u3;have hE1:=c1.env;have c2:=c1.put (n:=n) (ver:=ver+1) (O:=b::Os.flatten) (L := .tree (a.eval x) (b::(Os.set j []).flatten)) (B := .sealed n base (ver+1) (.mp ck (.ref e)) xs (some (j,c)) false) hN.1 (by rw[a0k,a0k];exact hN.2) hnb.1 (by rw[htop])
   ⟨_,_,rfl,by rw[htop,←htop1];exact EnvM.next_m _ _ _,by rw[EnvM.next_top,htop1,htop];exact Nat.le_refl _,fun q hq hq'=>by
    rcases Nat.lt_or_ge ver q with k | k
    ·have:q=E1.top n+1:=by omega
     subst this;exact ⟨_,EnvM.next_m _ _ _⟩
    ·rw[(EnvM.next_le E1 n _).m n q (by omega),hE1.m n q (by omega)];exact hheads q hq k,fun y hy=>by
    have hb:=(Array.getElem?_eq_some_iff.1 e2).1;rcases List.mem_cons.1 hy with rfl | hy
    ·exact hb
    ·exact cc.hr.lt y ⟨n,hat y (List.mem_cons_of_mem _ (hperm.mem_iff.2 (List.mem_append.2 (.inr hy))))⟩,fun _=>⟨by
    simp only[f0m];refine ⟨b,es,clock,Os.set j [],e1,e2,e3,by simpa using e4,rfl,fun q hq => ?_⟩;obtain ⟨en2,O2,w1,w2,w3,w4⟩:=e5 q hq;by_cases hqj:q=j
    ·subst hqj;rw[q1] at w1;injection w1 with w1;subst w1;refine ⟨en',[],q1,by rw[List.getElem?_set];simp[e4,hq],w3,?_⟩;dsimp only;rw[if_pos rfl,oneCell_cells (q4.2.1 rfl)];exact ⟨rfl,q4,u3.later (Later.refl W _) (EnvM.next_le _ _ _)⟩
    ·refine ⟨en2,O2,w1,by rw[List.getElem?_set_ne (fun e=>hqj e.symm)];exact w2,w3,?_⟩;dsimp only;rw[if_neg hqj,a0j];exact w4,List.nodup_cons.2 ⟨fun hb=>hnd.1 (hperm.mem_iff.2 (List.mem_append.2 (.inr hb))),hnd2.2.1⟩,fun y hy=>by
    rw[a0j];rcases List.mem_cons.1 hy with rfl | hy
    ·exact hfree y (by simp)
    ·exact hfree y (List.mem_cons_of_mem _ (hperm.mem_iff.2 (List.mem_append.2 (.inr hy))))⟩⟩ hmem (fun y hy=>by
   have hy:y∈b::(Os.set j []).flatten:=hy;rcases List.mem_cons.1 hy with rfl | hy
   ·exact ⟨by simp,fun hO=>hnd.1 (hperm.mem_iff.2 (List.mem_append.2 (.inl hO))),z2 y (by simp)⟩
   ·have hy':=hperm.mem_iff.2 (List.mem_append.2 (.inr hy))
    exact ⟨List.mem_cons_of_mem _ hy',fun hO=>hnd2.2.2 y hO y hy rfl,z2 y (List.mem_cons_of_mem _ hy')⟩)
  have c3:=c2.toU;obtain ⟨E2,e21,hop⟩:=k0c (P:=cx.P) (W':=W) (F2:=a0g F h E []) (takes:=[]) (ls:=[]) (O':=b::Os.flatten) cc.hr hT (fun m hm=>by cases hm) List.nodup_nil (fun m hm => .inr (by simp at hm;subst hm;simp[a0e])) (fun m hm=>by cases hm) (Later.refl W _) (fun _ _ _=>rfl) (fun b hb => .inl hb) (fun b hb => .inl hb)
   (fun y hy=>cc.hr.lt y ⟨n,hat y hy⟩) (by simpa [c0k,a0i] using hKn) c3
  rw[a0j] at hop;have hval:RdV cx.P W F E2 (.v false [c]) en'.val:=by
   rw[a0j] at u3;refine ⟨?_,(fun e=>by cases e),fun _=>q4.2.1 rfl⟩;rw[oneCell_cells (q4.2.1 rfl)];exact u3.later (Later.refl W _) ((EnvM.next_le _ _ _).trans e21)
  exact ⟨_,_,hk,OpOk.of (hrun _ m4) hop hval⟩
def setB (W:World) (b:Nat) (ob:Obj):World := { W with heap:=W.heap.setIfInBounds b ob }
theorem e1y {o:Oper} {k:V→Ups→Option R} {r:R} {t kt et:TypeId} {x i:Operand} {ok:Bool} {n v0 ver base:Nat} {ck:Ty} {kd:IntKind} {xs:List (El ck×El (.int kd))} {key:El ck} (cc:Ctx cx call W F E N h ρ a) (ho:o.op = .lookup t x i ok)
  (hs:cx.shp t = .map kt et) (hx:ρ x = .v false [.sl n v0]) (hi:ρ i = .v false [.val ck key]) (hn:h[n]? = some (ver,some (.sealed n base ver (.mp ck (.int kd)) xs none false))) (hb1:base≤v0) (hb2:v0≤ver)
  (hok:z0o cx kt ck=true) (hp:intTy (cx.ty et) kd=true) (hk:k (lookI ok ck kd xs key) []=some r):a0r cx W F E N h a o k r:=by
 obtain ⟨d,hd1,hd2⟩:=b1r cc.tab hok;have ht:cx.P.underlying t=some (.map kt et):=by
  unfold Cx.shp at hs;cases hi:cx.info t with
  | none=>rw[hi] at hs;cases hs
  | some q =>
   rw[hi] at hs;have h1:=(cc.tab t q hi).shp;dsimp only at hs;rw[hs] at h1;unfold shpB at h1;cases hu:cx.P.underlying t with
   | none=>rw[hu] at h1;cases h1
   | some d' =>
    rw[hu] at h1;cases d'<;>first | (cases h1;done) | skip
    simp only[Bool.and_eq_true] at h1;rw[Nat.eq_of_beq_eq_true h1.1,Nat.eq_of_beq_eq_true h1.2]
 have hz:(zeroValue et).run cx.P W = .ok (.int kd 0) W:=by
  cases hte:cx.ty et with
  | none=>rw[hte] at hp;cases hp
  | some c =>
   rw[hte] at hp;cases c<;>first | (cases hp;done) | skip
   rename_i kd';have hkd:kd'=kd:=of_decide_eq_true hp;subst hkd;obtain ⟨ti,h1,h2,z,h3,h4,h5⟩:=(k0k cc.tab hte).ti;have hz1:z = .int kd' 0:=by
    have hrd:=(e0r (P:=cx.P) (W:=W) (F:=F) (E:=E) h4);simp only[zeroCells] at hrd;have hc:z.cells = #[z]:=by
     cases z<;>first | rfl | skip
     have:=h5.2 ⟨_,rfl⟩;simp[agg] at this
    rw[hc] at hrd;have:=(hrd.2 0 _ _ rfl rfl).1.2.2;exact Option.some.inj this
   subst hz1;simp[zeroValue,typeInfo,h1,h3]
 have hvx:=cc.ρ x;rw[hx] at hvx;have hvi:=cc.ρ i;rw[hi] at hvi;obtain ⟨bs,hm,hnd,hfree,hat,htop,hheads⟩:=z0i cc.hr hn hb1 hb2 hvx;have hkv:keyV ck key=some (a.eval i):=by
  have hone:=hvi.2.2 rfl;have hrd:=hvi.1;rw[oneCell_cells hone] at hrd;exact b1q hd1 (hrd.2 0 _ _ rfl rfl).1
 obtain ⟨b,es,clock,Os,e1,e2,e3,e4,rfl,e5⟩:=hm;have num:∀ {F2:Fz} {E2:EnvM} (p:Int),RdV cx.P W F2 E2 (.v false [.val (.int kd) p]) (.int kd p):=fun p=>RdV.mk1 ⟨rfl,rfl,rfl⟩ rfl
 have two:∀ {F2:Fz} {E2:EnvM} (p:Int) (q:Bool),RdV cx.P W F2 E2 (.tup [(false,[.val (.int kd) p]),(false,[.val .bool q])]) (.tuple #[.int kd p,.bool q]):=by
  intro F2 E2 p q;refine ⟨[.int kd p,.bool q],rfl,rfl,fun j y u hy hu => ?_⟩
  match j with
  | 0=>cases hy;cases hu;exact num p
  | 1=>cases hy;cases hu;exact RdV.mk1 ⟨rfl,rfl,rfl⟩ rfl
  | j+2=>simp at hy
 have hrun:∀q,Instr.findNow d (a.eval i) es.toList 0=some q→(execOp a.eval o).run cx.P W = .ok (.value (bif ok then .tuple #[(match q with | some y=>y.2 | none => .int kd 0),.bool q.isSome] else (match q with | some y=>y.2 | none => .int kd 0))) W:=by
  intro q hq;cases ok with
  | false =>
   simp[execOp,ho,e1,v0i ht hd2 (e0y hkv hd1) e2 hq hz,Result.andThen];cases q<;>rfl
  | true =>
   simp[execOp,ho,e1,y0n ht hd2 (e0y hkv hd1) e2 hq hz,Result.andThen];cases q<;>rfl
 rcases m0l (e := .int kd) hd1 hkv xs es.toList 0 (by simpa using e3) (fun i hi=>by
   obtain ⟨en,O,k1,_,k3,_⟩:=e5 i hi
   exact ⟨en,by simpa using k1,k3⟩) with ⟨m1,m2⟩ | ⟨j,p,en,m1,m2,m3,m4,m5⟩
 ·have hg:b1n ck kd xs key=(0,false):=by unfold b1n;rw[m1]
  refine a0r.value cc hk (hrun _ m2) ?_;unfold lookI;rw[hg];cases ok with
  | true=>exact two 0 false
  | false=>exact num 0
 ·obtain ⟨hjl,hjx⟩:=List.getElem?_eq_some_iff.1 m1;obtain ⟨en',O,q1,q2,q3,q4,q5⟩:=e5 j hjl;have hen:en'=en:=by
   have:=(Array.getElem?_toList (xs:=es) (i:=j)).symm.trans m2;rw[q1] at this;injection this
  subst hen;rw[hjx] at q5;have hval:en'.val = .int kd p.2:=by
   have h5:one en'.val 0=some (.int kd p.2):=q5.2;rw[one,oneCell_cells (q4.2.1 rfl)] at h5;exact Option.some.inj h5
  have hg:b1n ck kd xs key=(p.2,true):=by unfold b1n;rw[m3]
  have hr2:=hrun _ m4;simp only[hval,Option.isSome_some] at hr2;refine a0r.value cc hk hr2 ?_;unfold lookI;rw[hg];cases ok with
  | true=>exact two p.2 true
  | false=>exact num p.2
theorem map_put {P:Program} {t kt et:TypeId} {k e:Ty} {d:TypeDesc} {b:Nat} {es:Array MapEntry} {clock:Nat} {xs:List (El k×El e)} {Os:List (List Nat)} {x:El k} {u w:Value} {y:El e} {O:List Nat} {Rr:El e→List Nat→Value→Prop}
  (ht:P.underlying t=some (.map kt et)) (hd:P.underlying kt=some d) (hk:keyD k=some d) (hu:keyV k x=some u) (hb:W.heap[b]? = some (.map es clock)) (hl:es.size=xs.length) (hl2:Os.length=xs.length)
  (hold:∀i (h:i<xs.length),∃en O,es[i]? = some en∧Os[i]? = some O∧keyV k xs[i].1=some en.key∧Rr xs[i].2 O en.val) (hnew:Rr y O w) :
  ∃(es':Array MapEntry) (clock':Nat) (Os':List (List Nat)),(Instr.mapUpdate t (.map (some b)) u w).run P W = .ok () (setB W b (.map es' clock'))∧es'.size=(mput k e xs x y).length∧Os'.length=(mput k e xs x y).length ∧
   (∀i (h:i<(mput k e xs x y).length),∃en O,es'[i]? = some en∧Os'[i]? = some O∧keyV k (mput k e xs x y)[i].1=some en.key∧Rr (mput k e xs x y)[i].2 O en.val) ∧
   (∀c∈Os'.flatten,c∈Os.flatten∨c∈O)∧((Os.flatten++O).Nodup→Os'.flatten.Nodup):=by
 have hput:∀(xs:List (El k×El e)) (i0:Nat),(mget k e xs x i0=none→mput k e xs x y=xs++[(x,y)])∧∀j v p,mget k e xs x i0=some (i0+j,v)→xs[j]? = some p→mput k e xs x y=xs.set j (p.1,y):=by
  intro xs;induction xs with
  | nil=>intro i0;exact ⟨fun _=>rfl,fun j v p h=>by cases h⟩
  | cons p r ih =>
   intro i0;obtain ⟨z,z2⟩:=p;obtain ⟨k1,k2⟩:=ih (i0+1);cases hq:z0p k x z with
   | true =>
    refine ⟨fun h=>by simp[mget,hq] at h,fun j v p h hp => ?_⟩;simp[mget,hq] at h;obtain ⟨rfl,rfl⟩:=h;simp at hp;subst hp;simp[mput,hq]
   | false =>
    refine ⟨fun h => ?_,fun j v p h hp => ?_⟩
    ·simp[mget,hq] at h;simp[mput,hq,k1 h]
    ·simp[mget,hq] at h;cases j with
     | zero =>
      exfalso;have hge:∀(r:List (El k×El e)) (i0 i:Nat) (v:El e),mget k e r x i0=some (i,v)→i0≤i:=by
       intro r;induction r with
       | nil=>intro i0 i v h;cases h
       | cons p r ih =>
        intro i0 i v h;obtain ⟨z,z2⟩:=p;cases hq:z0p k x z with
        | true=>simp[mget,hq] at h;omega
        | false=>simp[mget,hq] at h;have:=ih _ _ _ h;omega
      have:=hge _ _ _ _ h;omega
     | succ j =>
      simp[mput,hq,k2 j v p (by rw[h];congr 2;omega) (by simpa using hp)]
 rcases m0l (e:=e) hk hu xs es.toList 0 (by simpa using hl) (fun i hi=>by
   obtain ⟨en,O,k1,_,k3,_⟩:=hold i hi
   exact ⟨en,by simpa using k1,k3⟩) with ⟨m1,m2⟩ | ⟨j,p,en,m1,m2,m3,m4,m5⟩
 ·rw[(hput xs 0).1 m1];refine ⟨es.push { key:=u,val:=w,born:=clock },clock+1,Os++[O],?_,by simp[hl],by simp[hl2],fun i hi => ?_,fun c hc=>by simpa using hc,fun hnd=>by simpa using hnd⟩
  ·simp[Instr.mapUpdate,run_underlying ht,MapKept.run_getObj_map hb,MapKept.run_checkKey hd (e0y hu hk),MapKept.run_findKey hd m2,MapKept.run_setObj_map _ hb,Result.andThen,setB]
  ·by_cases hi2:i<xs.length
   ·obtain ⟨en,O2,k1,k2,k3,k4⟩:=hold i hi2;refine ⟨en,O2,?_,?_,?_,?_⟩
    ·rw[Array.getElem?_push,if_neg (by omega)];exact k1
    ·rw[List.getElem?_append_left (by omega)];exact k2
    ·rw[List.getElem_append_left hi2];exact k3
    ·rw[List.getElem_append_left hi2];exact k4
   ·have hie:i=xs.length:=by simp at hi;omega
    subst hie;refine ⟨{ key:=u,val:=w,born:=clock },O,?_,?_,?_,?_⟩
    ·rw[←hl];simp
    ·rw[←hl2];simp
    ·simpa using hu
    ·simpa using hnew
 ·rw[(hput xs 0).2 j p.2 p m3 m1];obtain ⟨hjl,hjx⟩:=List.getElem?_eq_some_iff.1 m1;have m2':es[j]? = some en:=by simpa using m2
  refine ⟨es.modify j fun e => { e with key:=u,val:=w },clock,Os.set j O,?_,by simp[hl],by simp[hl2],fun i hi => ?_,fun c hc => ?_,fun hnd => ?_⟩
  ·simp only[Nat.zero_add] at m4;simp[Instr.mapUpdate,run_underlying ht,MapKept.run_getObj_map hb,MapKept.run_checkKey hd (e0y hu hk),MapKept.run_findKey hd m4,m2',m5,MapKept.run_keyThatStays (e0y hu hk),MapKept.run_setObj_map _ hb,Result.andThen,setB]
  ·have hi2:i<xs.length:=by simpa using hi
   obtain ⟨en2,O2,k1,k2,k3,k4⟩:=hold i hi2;by_cases hij:i=j
   ·subst hij;refine ⟨{ en with key:=u,val:=w },O,?_,?_,?_,?_⟩
    ·rw[Array.getElem?_modify,if_pos rfl,m2'];rfl
    ·rw[List.getElem?_set];simp[hl2,hi2]
    ·rw[List.getElem_set_self,←hjx,k3];have:en2=en:=by rw[k1] at m2';injection m2'
     rw[this,m5]
    ·rw[List.getElem_set_self];exact hnew
   ·refine ⟨en2,O2,?_,?_,?_,?_⟩
    ·rw[Array.getElem?_modify,if_neg (fun e=>hij e.symm)];exact k1
    ·rw[List.getElem?_set_ne (fun e=>hij e.symm)];exact k2
    ·rw[List.getElem_set_ne (fun e=>hij e.symm)];exact k3
    ·rw[List.getElem_set_ne (fun e=>hij e.symm)];exact k4
  ·obtain ⟨l,hl3,hcl⟩:=List.mem_flatten.1 hc;rcases List.mem_or_eq_of_mem_set hl3 with q | rfl
   ·exact .inl (List.mem_flatten.2 ⟨l,q,hcl⟩)
   ·exact .inr hcl
  ·obtain ⟨_,O2,_,k2,_,_⟩:=hold j hjl;have h1:=m0j Os j O2 k2;have h2:=o0b (Os.set j []) j O (by rw[List.getElem?_set];simp[hl2,hjl]);rw[List.set_set] at h2;rw[List.nodup_append] at hnd;obtain ⟨n1,n2,n3⟩:=hnd;have n4:=h1.nodup_iff.1 n1;rw[List.nodup_append] at n4;rw[h2.nodup_iff,List.nodup_append];exact ⟨n2,n4.2.1,fun c hc c' hc' e=>n3 c' (h1.mem_iff.2 (List.mem_append.2 (.inr hc'))) c hc e.symm⟩
theorem z0d {o:Oper} {k:V→Ups→Option R} {r:R} {t kt et:TypeId} {m i v:Operand} {n v0 ver base:Nat} {ck e:Ty} {xs:List (El ck×El e)} {key:El ck} {c:Cell} {y:El e} {taken lent:List Nat} (cc:Ctx cx call W F E N h ρ a) (hK:KOk N h k) (ho:o.op = .mapUpdate t m i v)
  (hs:cx.shp t = .map kt et) (hx:ρ m = .v false [.sl n v0]) (hi:ρ i = .v false [.val ck key]) (hv:ρ v = .v false [c]) (hn:h[n]? = some (ver,some (.sealed n base ver (.mp ck e) xs none false))) (hb1:base≤v0) (hb2:v0≤ver)
  (hok:z0o cx kt ck=true) (hw:width e=1) (hag:agg e=false) (hnoTk:noTk e=true) (hpk:b0b cx call h e [c]=some (y,[],taken,lent)) (hap:apartB (n::taken) lent=true)
  (hk:k .undef (c0k h taken++a0i h lent++[(n,ver+1,some (.sealed n base (ver+1) (.mp ck e) (mput ck e xs key y) none false))])=some r):a0r cx W F E N h a o k r:=by
 obtain ⟨d,hd1,hd2⟩:=b1r cc.tab hok;have ht:cx.P.underlying t=some (.map kt et):=by
  unfold Cx.shp at hs;cases hi:cx.info t with
  | none=>rw[hi] at hs;cases hs
  | some q =>
   rw[hi] at hs;have h1:=(cc.tab t q hi).shp;dsimp only at hs;rw[hs] at h1;unfold shpB at h1;cases hu:cx.P.underlying t with
   | none=>rw[hu] at h1;cases h1
   | some d' =>
    rw[hu] at h1;cases d'<;>first | (cases h1;done) | skip
    simp only[Bool.and_eq_true] at h1;rw[Nat.eq_of_beq_eq_true h1.1,Nat.eq_of_beq_eq_true h1.2]
 have hvx:=cc.ρ m;rw[hx] at hvx;have hvi:=cc.ρ i;rw[hi] at hvi;have hvv:=cc.ρ v;rw[hv] at hvv;obtain ⟨bs,hm,hnd,hfree,hat,htop,hheads⟩:=z0i cc.hr hn hb1 hb2 hvx;have hkv:keyV ck key=some (a.eval i):=by
  have hone:=hvi.2.2 rfl;have hrd:=hvi.1;rw[oneCell_cells hone] at hrd;exact b1q hd1 (hrd.2 0 _ _ rfl rfl).1
 have hcells:=oneCell_cells (hvv.2.2 rfl);have hform:formed e (a.eval v):=hvv.formed (by rw[hag]) (by rw[hcells,hw];rfl);obtain ⟨O,p1,p2,_,_⟩:=x0d cc.hc cc.hr e [c] y [] taken lent hpk D0 (fun p hp=>by rw[n0h e [c] hnoTk] at hp;cases hp) _ hvv.1;have p1':RdB cx.P D0 e y W (a0g F h E lent) O (one (a.eval v)):=RdB.congr e (fun q _=>by rw[one,Array.getElem?_toList]) p1;obtain ⟨b,es,clock,Os,e1,e2,e3,e4,rfl,e5⟩:=hm;obtain ⟨a1,_,a3⟩:=l0c hap;rw[List.nodup_cons] at a1 hnd
 have hT:Takes F h E (n::taken) ((b::Os.flatten)++O):=Takes.append (t1:=[n]) cc.hr ⟨fun c hc=>⟨n,by simp,hat c hc⟩,hfree,fun _=>List.nodup_cons.2 hnd⟩ p2;have hTn:=hT.nodup (List.nodup_cons.2 a1);have hbl:b<W.heap.size:=(Array.getElem?_eq_some_iff.1 e2).1;have hbF:¬a0g F h E lent b:=by
  rintro (k | ⟨q,hq,k⟩)
  ·exact hfree b (by simp) k
  ·exact a3 n (by simp) q hq (b0h cc.hr (hat b (by simp)) k)
 have hbO:b ∉ Os.flatten++O:=by
  have:=hTn;rw[List.cons_append,List.nodup_cons] at this;exact this.1
 have hset:∀(ob:Obj) (q:Nat),q≠b→(setB W b ob).heap[q]? = W.heap[q]? := fun ob q hq=>by
  show (W.heap.setIfInBounds b ob)[q]? = _;simp[Ne.symm hq]
 have hself:∀ob:Obj,(setB W b ob).heap[b]? = some ob:=fun ob=>by
  show (W.heap.setIfInBounds b ob)[b]? = _;simp[hbl]
 have hsz:∀ob:Obj,(setB W b ob).heap.size=W.heap.size:=fun ob=>by
  show (W.heap.setIfInBounds b ob).size=_;simp
 have hlat:∀ob:Obj,Later W (a0g F h E lent) (setB W b ob) (a0g F h E lent):=fun ob =>
  ⟨rfl,rfl,rfl,by rw[hsz];exact Nat.le_refl _,fun q hq=>hset ob q (fun e=>hbF (e ▸ hq)),fun _ h=>h⟩
 have hold:∀i (hi:i<xs.length),∃en O,es[i]? = some en∧Os[i]? = some O∧keyV ck xs[i].1=some en.key∧∀ob:Obj,formed e en.val∧RdB cx.P D0 e xs[i].2 (setB W b ob) (a0g F h E lent) O (one en.val):=by
  intro q hq;obtain ⟨en,O2,k1,k2,k3,k4,k5⟩:=e5 q hq;refine ⟨en,O2,k1,k2,k3,fun ob=>⟨k4,RdB.later e k5 ((a0z lent).trans (hlat ob)) fun z hz=>hset ob z fun e=>hbO ?_⟩⟩;subst e;exact List.mem_append.2 (.inl (List.mem_flatten.2 ⟨O2,List.mem_of_getElem? k2,hz⟩))
 obtain ⟨es',clock',Os',hrun,s1,s2,s3,s4,s5⟩:=map_put (Rr:=fun y O w=>∀ob:Obj,formed e w∧RdB cx.P D0 e y (setB W b ob) (a0g F h E lent) O (one w)) ht hd2 hd1 hkv e2 e3 e4 hold
  (fun ob=>⟨hform,p1'.later e (hlat ob) fun z hz=>hset ob z fun e=>hbO (by subst e;exact List.mem_append.2 (.inr hz))⟩)
 have hsub:∀c∈b::Os'.flatten,c∈(b::Os.flatten)++O:=by
  intro c hc;rcases List.mem_cons.1 hc with rfl | hc
  ·simp
  ·rcases s4 c hc with k | k
   ·exact List.mem_append.2 (.inl (List.mem_cons_of_mem _ k))
   ·exact List.mem_append.2 (.inr k)
 have hOF:∀c∈(b::Os.flatten)++O,¬a0g F h E lent c:=by
  rintro c hc (k | ⟨q,hq,k⟩)
  ·exact hT.free c hc k
  ·obtain ⟨q',hq',k'⟩:=hT.at_ c hc;exact a3 q' hq' q hq (b0h cc.hr k' k)
 have hKn:=hK _ _ _ hk;have hNn:=hKn n (by simp[a0e]);have hlt':∀c∈b::Os'.flatten,c<(setB W b (.map es' clock')).heap.size:=fun c hc=>by
  rw[hsz];obtain ⟨q,_,k⟩:=hT.at_ c (hsub c hc);exact cc.hr.lt c ⟨q,k⟩
 have hframe:∀q,q<W.heap.size→q ∉ (b::Os.flatten)++O→(setB W b (.map es' clock')).heap[q]? = W.heap[q]? := fun q _ hq=>hset _ q fun e=>hq (by subst e;simp)
 obtain ⟨z1,z2,z3⟩:=k0z (P:=cx.P) (W':=setB W b (.map es' clock')) (F2:=a0g F h E lent) (O':=b::Os'.flatten) (ls:=lent) cc.hr hT (fun q hq=>by
   rcases List.mem_cons.1 hq with rfl | hq
   ·exact hNn
   ·exact hKn q (by simp[a0e,c0k];exact .inl hq)) (hlat _) hframe (fun b hb => .inl hb) (fun c hc => .inl (hsub c hc))
 have c2:=(Came.nil (O:=[]) z1).put (n:=n) (ver:=ver+1) (O:=b::Os'.flatten) (L := .tree (a.eval m) (b::Os'.flatten)) (B := .sealed n base (ver+1) (.mp ck e) (mput ck e xs key y) none false) hNn.1 (by rw[a0k,a0k];exact hNn.2) (by simp[a0s]) (by rw[htop])
  ⟨_,_,rfl,by rw[htop];exact EnvM.next_m _ _ _,by rw[EnvM.next_top,htop];exact Nat.le_refl _,fun q hq hq'=>by
   rcases Nat.lt_or_ge ver q with k | k
   ·have:q=E.top n+1:=by omega
    subst this;exact ⟨_,EnvM.next_m _ _ _⟩
   ·rw[(EnvM.next_le E n _).m n q (by omega)];exact hheads q hq k,hlt',fun _=>⟨by
   simp only[f0m];refine ⟨b,es',clock',Os',e1,hself _,s1,s2,rfl,fun q hq => ?_⟩;obtain ⟨en,O2,k1,k2,k3,k4⟩:=s3 q hq;exact ⟨en,O2,k1,k2,k3,k4 _⟩,List.nodup_cons.2 ⟨fun hb=>hbO (List.mem_append.2 (s4 b hb)),s5 (by
    have:=hTn;rw[List.cons_append,List.nodup_cons] at this
    exact this.2)⟩,fun c hc=>hOF c (hsub c hc)⟩⟩ (fun c hc=>by cases hc) (fun c hc=>by
   have hc:c∈b::Os'.flatten:=hc
   exact ⟨hc,by simp,z2 c hc⟩)
 have c3:=c2.toU;obtain ⟨E2,_,hop⟩:=k0c (P:=cx.P) (W':=setB W b (.map es' clock')) (F2:=a0g F h E lent) (takes:=taken) (ls:=lent) (O':=b::Os'.flatten) cc.hr hT (fun q hq=>List.mem_cons_of_mem _ hq) a1.2
  (fun q hq=>by
   rcases List.mem_cons.1 hq with rfl | hq
   ·exact .inr (by simp[a0e])
   ·exact .inl hq) (fun q hq hq'=>a3 q hq' q hq rfl) (hlat _) hframe (fun b hb => .inl hb) (fun c hc => .inl (hsub c hc)) hlt' (by simpa using hKn) c3
 refine ⟨_,_,hk,OpOk.skip (W':=setB W b (.map es' clock')) ?_ hop⟩;simp[execOp,ho,e1,hrun,Result.andThen]
theorem b1i {o:Oper} {cl:Go.Call} {k:V→Ups→Option R} {r:R} {p:Operand} {t kt et:TypeId} {n v0 ver base:Nat} {ck e:Ty} {xs:List (El ck×El e)}
  (cc:Ctx cx call W F E N h ρ a) (hK:KOk N h k) (ho:o.op = .call cl) (hc:cl.callee = .builtin .clear) (hargs:cl.args = #[p]) (ht:cl.argTypes[0]? = some t) (hs:cx.shp t = .map kt et)
  (hp:ρ p = .v false [.sl n v0]) (hn:h[n]? = some (ver,some (.sealed n base ver (.mp ck e) xs none false))) (hb1:base≤v0) (hb2:v0≤ver)
  (hk:k (.tup []) [(n,ver+1,some (.sealed n base (ver+1) (.mp ck e) [] none false))]=some r):a0r cx W F E N h a o k r:=by
 have hu:=h1u cc.tab hs;have hvx:=cc.ρ p;rw[hp] at hvx;obtain ⟨bs,hm,hnd,hfree,hat,htop,hheads⟩:=z0i cc.hr hn hb1 hb2 hvx;obtain ⟨b,es,clock,Os,e1,e2,e3,e4,rfl,e5⟩:=hm;rw[List.nodup_cons] at hnd;have hT:Takes F h E [n] (b::Os.flatten):=⟨fun c hc=>⟨n,by simp,hat c hc⟩,hfree,fun _=>List.nodup_cons.2 hnd⟩;have hbl:b<W.heap.size:=(Array.getElem?_eq_some_iff.1 e2).1;have hbF:¬a0g F h E [] b:=by rw[a0j];exact hfree b (by simp)
 have hset:∀(q:Nat),q≠b→(setB W b (.map #[] clock)).heap[q]? = W.heap[q]? := fun q hq=>by
  show (W.heap.setIfInBounds b _)[q]? = _;simp[Ne.symm hq]
 have hself:(setB W b (.map #[] clock)).heap[b]? = some (.map #[] clock):=by
  show (W.heap.setIfInBounds b _)[b]? = _;simp[hbl]
 have hsz:(setB W b (.map #[] clock)).heap.size=W.heap.size:=by
  show (W.heap.setIfInBounds b _).size=_;simp
 have hlat:Later W (a0g F h E []) (setB W b (.map #[] clock)) (a0g F h E []) :=
  ⟨rfl,rfl,rfl,by rw[hsz];exact Nat.le_refl _,fun q hq=>hset q (fun e=>hbF (e ▸ hq)),fun _ h=>h⟩
 have hKn:=hK _ _ _ hk;have hNn:=hKn n (by simp[a0e]);have hlt':∀c∈[b],c<(setB W b (.map #[] clock)).heap.size:=fun c hc=>by
  rw[hsz,List.mem_singleton.1 hc];exact hbl
 have hframe:∀q,q<W.heap.size→q ∉ b::Os.flatten→(setB W b (.map #[] clock)).heap[q]? = W.heap[q]? := fun q _ hq=>hset q fun e=>hq (by subst e;simp)
 have hsub:∀c∈[b],c∈b::Os.flatten:=fun c hc=>by rw[List.mem_singleton.1 hc];simp
 obtain ⟨z1,z2,z3⟩:=k0z (P:=cx.P) (W':=setB W b (.map #[] clock)) (F2:=a0g F h E []) (O':=[b]) (ls:=[]) cc.hr hT (fun q hq=>by
   rcases List.mem_cons.1 hq with rfl | hq
   ·exact hNn
   ·cases hq) hlat hframe (fun b hb => .inl hb) (fun c hc => .inl (hsub c hc))
 have c2:=(Came.nil (O:=[]) z1).put (n:=n) (ver:=ver+1) (O:=[b]) (L := .tree (a.eval p) [b]) (B := .sealed n base (ver+1) (.mp ck e) [] none false) hNn.1 (by rw[a0k,a0k];exact hNn.2) (by simp[a0s]) (by rw[htop])
  ⟨_,_,rfl,by rw[htop];exact EnvM.next_m _ _ _,by rw[EnvM.next_top,htop];exact Nat.le_refl _,fun q hq hq'=>by
   rcases Nat.lt_or_ge ver q with k | k
   ·have:q=E.top n+1:=by omega
    subst this;exact ⟨_,EnvM.next_m _ _ _⟩
   ·rw[(EnvM.next_le E n _).m n q (by omega)];exact hheads q hq k,hlt',fun _=>⟨by
   simp only[f0m];exact ⟨b,#[],clock,[],e1,hself,rfl,rfl,rfl,fun q hq=>by simp at hq⟩,by simp,fun c hc=>by
    rw[List.mem_singleton.1 hc];exact hbF⟩⟩ (fun c hc=>by cases hc) (fun c hc=>by
   have hc:c∈[b]:=hc
   exact ⟨hc,by simp,z2 c hc⟩)
 have c3:=c2.toU;obtain ⟨E2,_,hop⟩:=k0c (P:=cx.P) (W':=setB W b (.map #[] clock)) (F2:=a0g F h E []) (takes:=[]) (ls:=[]) (O':=[b]) cc.hr hT (fun q hq=>by cases hq) List.nodup_nil
  (fun q hq=>by
   rcases List.mem_cons.1 hq with rfl | hq
   ·exact .inr (by simp[a0e])
   ·cases hq) (fun q hq hq'=>by cases hq) hlat hframe (fun b hb => .inl hb) (fun c hc => .inl (hsub c hc)) hlt' (by simpa [c0k,a0i] using hKn) c3
 refine ⟨_,_,hk,OpOk.of (v := .tuple #[]) (W':=setB W b (.map #[] clock)) ?_ hop ⟨[],rfl,rfl,fun j p u hp=>by simp at hp⟩⟩;have hrun:(Builtin.clear_ cl.argTypes o.type #[a.eval p]).run cx.P W = .ok (.tuple #[]) (setB W b (.map #[] clock)):=by
  rw[e1];simp[Builtin.clear_,ht,run_underlying hu,MapKept.run_getObj_map e2,MapKept.run_setObj_map _ e2,Result.andThen,setB]
 simp[execOp,ho,resolve,hc,hargs,invoke,builtin,hrun]
end
end Go.Flat
end
section
namespace Go.Flat
open Go.RowKit (Below)
section
variable {cx:Cx} {call:Oracle cx} {fx:Hints} {W W':World} {F F':Fz} {E E':EnvM} {h:Heap} {N:Nat→Prop} {ρ:Operand→V} {a:Act} {R:Type}
theorem j0w {e:Ty} (h:oneCell e=true):width e=1∧agg e=false:=by
 unfold oneCell at h;simp only[Bool.and_eq_true,Bool.not_eq_true'] at h;exact ⟨Nat.eq_of_beq_eq_true h.1,h.2⟩
theorem w0i {P:Program}:∀(us:List V) (vs:List Value) (l:List (Nat×Nat)),o0e us=some l→us.length=vs.length→(∀(i:Nat) p u,us[i]? = some p→vs[i]? = some u→RdV P W F E p u) →
  ∃bs:List Nat,vs=bs.map (fun b=>Value.pointer (some ⟨b,0,none⟩))∧bs.length=l.length∧∀(i:Nat) p b,l[i]? = some p→bs[i]? = some b→p.2≤E.top p.1∧E.m p.1 p.2=some (.box b):=by
 intro us;induction us with
 | nil =>
  intro vs l h hlen _;simp only[o0e,Option.some.injEq] at h;subst h;have:vs=[]:=List.eq_nil_of_length_eq_zero (by simpa using hlen.symm);subst this;exact ⟨[],rfl,rfl,fun i p b hp=>by simp at hp⟩
 | cons x us ih =>
  intro vs l h hlen hrd;unfold o0e at h;split at h
  ·cases ‹_::_=[]›
  ·rename_i n ver r heq;injection heq with h1 h2;subst h1;subst h2;cases vs with
   | nil=>simp at hlen
   | cons v vs =>
    simp only[Option.map_eq_some_iff] at h;obtain ⟨l',hl',rfl⟩:=h;obtain ⟨bs,k1,k2,k3⟩:=ih vs l' hl' (by simpa using hlen) (fun i p u hp hu=>hrd (i+1) p u (by simpa using hp) (by simpa using hu));obtain ⟨g1,⟨L,g2⟩,g3⟩:=(hrd 0 _ _ rfl rfl).single.1;have hL:=g3 L g2;cases L with
    | box b =>
     have hv:v = .pointer (some ⟨b,0,none⟩):=hL;subst hv;refine ⟨b::bs,by rw[k1];rfl,by simp[k2],fun i p b' hp hb => ?_⟩;cases i with
     | zero=>simp at hp hb;subst hp;subst hb;exact ⟨g1,g2⟩
     | succ i=>exact k3 i p b' (by simpa using hp) (by simpa using hb)
    | nil=>exact hL.elim
    | arr b w len cap=>exact hL.elim
    | tree w bs=>exact hL.elim
  ·cases h
theorem e1x {o:Oper} {k:V→Ups→Option R} {r:R} {f:FuncId} {first caps:Array Operand} {l:List (Nat×Nat)} (cc:Ctx cx call W F E N h ρ a)
  (ho:o.op = .makeFunc (.func f) first caps) (h0:Nat.beq first.size 0=true) (hc:o0e (caps.toList.map ρ)=some l) (hk:k (.v false [.clob f l]) []=some r) :
  a0r cx W F E N h a o k r:=by
 have e0:first = #[]:=Array.eq_empty_of_size_eq_zero (Nat.eq_of_beq_eq_true h0)
 subst e0;obtain ⟨bs,k1,k2,k3⟩:=w0i (P:=cx.P) (W:=W) (F:=F) (E:=E) _ (caps.toList.map a.eval) l hc (by simp) (fun i p u hp hu=>by
  rw[List.getElem?_map] at hp hu;cases hx:caps.toList[i]? with
  | none=>rw[hx] at hp;cases hp
  | some y =>
   rw[hx] at hp hu;simp only[Option.map_some,Option.some.injEq] at hp hu;subst hp;subst hu
   exact cc.ρ y)
 refine a0r.value cc hk (v := .func (.func f) #[] (caps.map a.eval)) (by simp[execOp,ho,Instr.makeFunc]) (RdV.mk1 ⟨bs,?_,k2,k3⟩ rfl);rw[←k1];congr 1;apply Array.ext';simp
theorem d1g {P:Program} (hr:HR P W F E N h) {n ver base:Nat} {e:Ty} {xs:List (El e)} {hole:Option (Nat×Cell)} (hn:h[n]? = some (ver,some (.sealed n base ver (.ls e) xs hole false))) :
  ∃v bs,f0m P W F E (.ls e) xs hole bs v∧bs.Nodup∧(∀b∈bs,¬F b)∧(∀b∈bs,atName h E n b)∧ver=E.top n∧(∀j,base≤j→j≤ver→∃bs',E.m n j=some (.tree v bs'))∧N n:=by
 obtain ⟨hN,L,hL,w,bs,rfl,g1,g2,g3,g4,g5⟩:=hr.blk n _ _ hn;obtain ⟨m1,m2,m3⟩:=g5 rfl;exact ⟨w,bs,m1,m2,m3,fun b hb=>⟨_,_,_,hn,hL,hb⟩,hr.top n _ _ hN hn,g3,hN⟩
theorem sl_val {P:Program} {n v0 ver base:Nat} {v w:Value} (hheads:∀j,base≤j→j≤ver→∃bs',E.m n j=some (.tree v bs')) (hb1:base≤v0) (hb2:v0≤ver) (hv:RdV P W F E (.v false [.sl n v0]) w):w=v:=by
 obtain ⟨bs',hbs'⟩:=hheads v0 hb1 hb2;exact hv.single.1.2.2 _ hbs'
theorem j1a {n ver base':Nat} {e:Ty} {xs':List (El e)} {v':Value} {O O' takes lent:List Nat} (cc:Ctx cx call W F E N h ρ a) (hT:Takes F h E (n::takes) O) (htop:ver=E.top n) (hnd:(n::takes).Nodup) (hdis:∀q∈n::takes,q ∉ lent)
  (hN:∀q∈a0e (c0k h takes++a0i h lent++[(n,ver+1,some (.sealed n base' (ver+1) (.ls e) xs' none false))]),N q∧q<h.length)
  (hl:Later W (a0g F h E lent) W' (a0g F h E lent)) (hframe:∀q,q<W.heap.size→q ∉ O→W'.heap[q]? = W.heap[q]?) (hsub:∀c∈O',c∈O∨W.heap.size≤c) (hlt:∀c∈O',c<W'.heap.size)
  (hx:LsRd xs' W' O' v' (fun _ y O u=>formed e u∧RdB cx.P D0 e y W' (a0g F h E lent) O (one u))) (hnd':O'.Nodup) (hfree:∀c∈O',¬a0g F h E lent c) (hheads:∀j,base'≤j→j≤ver→∃bs',E.m n j=some (.tree v' bs')) :
  ∃E2,OpPost cx.P W F E N h W' (a0g F h E lent) E2 (c0k h takes++a0i h lent++[(n,ver+1,some (.sealed n base' (ver+1) (.ls e) xs' none false))])∧E2.m n (ver+1)=some (.tree v' O')∧ver+1≤E2.top n:=by
 have hNn:=hN n (by simp[a0e]);obtain ⟨z1,z2,z3⟩:=k0z (P:=cx.P) (W':=W') (F2:=a0g F h E lent) (O':=O') (ls:=lent) cc.hr hT (fun q hq=>by
   rcases List.mem_cons.1 hq with rfl | hq
   ·exact hNn
   ·exact hN q (by simp[a0e,c0k];exact .inl hq)) hl hframe (fun b hb => .inl hb) hsub
 have c2:=(Came.nil (O:=[]) z1).put (n:=n) (ver:=ver+1) (O:=O') (L := .tree v' O') (B := .sealed n base' (ver+1) (.ls e) xs' none false) hNn.1 (by rw[a0k,a0k];exact hNn.2) (by simp[a0s]) (by rw[htop])
  ⟨_,_,rfl,by rw[htop];exact EnvM.next_m _ _ _,by rw[EnvM.next_top,htop];exact Nat.le_refl _,fun q hq hq'=>by
   rcases Nat.lt_or_ge ver q with k | k
   ·have:q=E.top n+1:=by omega
    subst this;exact ⟨_,EnvM.next_m _ _ _⟩
   ·rw[(EnvM.next_le E n _).m n q (by omega)];exact hheads q hq k,hlt,fun _=>⟨by simp only[f0m];exact hx,hnd',hfree⟩⟩ (fun c hc=>by cases hc) (fun c hc=>by
   have hc:c∈O':=hc
   exact ⟨hc,by simp,z2 c hc⟩)
 have c3:=c2.toU;rw[List.nodup_cons] at hnd;obtain ⟨E2,e21,hop⟩:=k0c (P:=cx.P) (W':=W') (F2:=a0g F h E lent) (takes:=takes) (ls:=lent) (O':=O') cc.hr hT (fun q hq=>List.mem_cons_of_mem _ hq) hnd.2
  (fun q hq=>by
   rcases List.mem_cons.1 hq with rfl | hq
   ·exact .inr (by simp[a0e])
   ·exact .inl hq) (fun q hq hq'=>hdis q hq' hq) hl hframe (fun b hb => .inl hb) hsub hlt (by simpa using hN) c3
 refine ⟨E2,by simpa using hop,?_,?_⟩
 ·rw[e21.m n (ver+1) (by rw[EnvM.next_top,htop];exact Nat.le_refl _),htop];exact EnvM.next_m _ _ _
 ·exact Nat.le_trans (by rw[EnvM.next_top,htop];exact Nat.le_refl _) (e21.top n)
theorem l1g:∀ {ls:List (List Cell)},l1h ls=true→∀(i:Nat) c,ls[i]? = some c→c=[.ns]:=by
 intro ls;induction ls with
 | nil=>intro _ i c h;simp at h
 | cons x r ih =>
  intro h i c hi;unfold l1h at h;split at h
  ·cases ‹_::_=[]›
  ·rename_i heq;injection heq with h1 h2;subst h1;subst h2;cases i with
   | zero=>simp at hi;exact hi.symm
   | succ i=>exact ih h i c (by simpa using hi)
  ·cases h
theorem f1e {o:Oper} {k:V→Ups→Option R} {r:R} {t et:TypeId} {n:Nat} {ps:Array (Nat×Operand)} {e e':Ty} {ls:List (List Cell)}
  (cc:Ctx cx call W F E N h ρ a) (hK:KOk N h k) (ho:o.op = .buildSlice t n ps)
  (hs:cx.shp t = .slice et) (he:cx.ty et=some e) (hp:j0p (width e) (List.replicate n (zeroCells e)) (ps.toList.map fun x=>(x.1,ρ x.2))=some ls)
  (hw:(e0f cx et e&&Nat.ble (n*width e) 16777216)=true) {own:Bool} (hx:lsNew own e ls=some e')
  (hk:k (.v false [.sl (nmOf fx o) (a0h h (nmOf fx o)+1)]) [(nmOf fx o,a0h h (nmOf fx o)+1,some (.sealed (nmOf fx o) (a0h h (nmOf fx o)+1) (a0h h (nmOf fx o)+1) (.ls (.own e')) (ls.map fun _=>[]) none false))]=some r):a0r cx W F E N h a o k r:=by
 unfold lsNew at hx;split at hx
 case h_2=>cases hx
 rename_i e1;cases hall:l1h ls with
 | false=>rw[hall] at hx;cases hx
 | true =>
 rw[hall] at hx;simp only[cond_true,Option.some.injEq] at hx;subst hx;simp only[Bool.and_eq_true] at hw;have hle:n*width (.slice e1)≤16777216:=Nat.le_of_ble_eq_true hw.2;have hwpos:=s0k hw.1;obtain ⟨ti,t1,t2,z,t3,t4,t5⟩:=(k0k cc.tab he).ti;have hzc:a0d cx.P W F E (zeroCells (.slice e1)) z.cells.toList:=e0r t4;have hzsz:z.cells.size=width (.slice e1):=by have:=hzc.1;rw[d0l] at this;simpa using this.symm
 have hrows:e1d cx.P W F E (width (.slice e1)) (List.replicate n (zeroCells (.slice e1))) (madeCells z.cells (n*width (.slice e1))):=by
  refine ⟨by rw[size_madeCells,List.length_replicate],n0e (a0d.one_all hzc) (by omega),fun i c hi => ?_⟩;have hin:i<n:=by
   rcases Nat.lt_or_ge i n with q | q
   ·exact q
   ·rw[List.getElem?_eq_none (by simpa using q)] at hi;cases hi
  rw[List.getElem?_replicate,if_pos hin] at hi;injection hi with hi;subst hi;have:((madeCells z.cells (n*width (.slice e1))).toList.drop (i*width (.slice e1))).take (width (.slice e1))=z.cells.toList:=by
   apply List.ext_getElem?;intro q;rw[List.getElem?_take,List.getElem?_drop,Array.getElem?_toList];by_cases hq:q<width (.slice e1)
   ·rw[if_pos hq,x0i (q0r hin hq),hzsz];have:(i*width (.slice e1)+q) % width (.slice e1)=q:=by rw[Nat.mul_comm,Nat.mul_add_mod,Nat.mod_eq_of_lt hq]
    rw[this,getElem!_pos z.cells q (by omega)];simp[hzsz,hq]
   ·rw[if_neg hq,List.getElem?_eq_none (by simp[hzsz];omega)]
  rw[this];exact hzc
 obtain ⟨us,u1,u2,u3⟩:=v0n (width (.slice e1)) ps.toList _ _ ls cc.ρ hp hrows;rw[List.length_replicate] at u3;have hrun:(Instr.buildSlice t n (ps.map fun x=>(x.1,a.eval x.2))).run cx.P W = .ok (.slice (some ⟨W.heap.size,0,none⟩) n n) (W.alloc (.cells us et)):=by
  have hu:=c0l cc.tab hs;by_cases hn:n*width (.slice e1)=0
  ·have e0:madeCells z.cells (n*width (.slice e1)) = #[]:=by rw[hn];simp[madeCells]
   rw[e0] at u1;simp[Instr.buildSlice,run_underlying hu,sizeOf,typeInfo,t1,t2,hn,newRow,Array.range_zero',u1]
  ·unfold madeCells at u1;simp[Instr.buildSlice,run_underlying hu,sizeOf,typeInfo,t1,t2,hn,show ¬16777216<n*width (.slice e1) by omega,zeroValue,t3,newRow,u1]
 have hexec:(execOp a.eval o).run cx.P W = .ok (.value (.slice (some ⟨W.heap.size,0,none⟩) n n)) (W.alloc (.cells us et)):=by simp[execOp,ho,hrun]
 have husz:us.size=n:=by have:=u2.1;rw[u3] at this;simpa [width] using this
 obtain ⟨hN,hlt⟩:=hK _ _ _ hk (nmOf fx o) (by simp[a0e]);have hvt:=a0y cc.hr hN hlt;have hsize:(W.alloc (.cells us et)).heap.size=W.heap.size+1:=by
  show (W.heap.push _).size=_;simp
 have hxl:(ls.map fun _=>([]:List (El e1))).length=n:=by rw[List.length_map];exact u3
 obtain ⟨bs,hls,hbs,hbn⟩:∃bs,LsRd (ls.map fun _=>([]:List (El e1))) (W.alloc (.cells us et)) bs (.slice (some ⟨W.heap.size,0,none⟩) n n) (fun _ y O u=>formed (.own e1) u∧RdB cx.P D0 (.own e1) y (W.alloc (.cells us et)) F O (one u))∧(∀b∈bs,b=W.heap.size)∧bs.Nodup:=by
  rcases Nat.eq_zero_or_pos n with hn0 | hnpos
  ·subst hn0;exact ⟨[],.inl ⟨List.eq_nil_of_length_eq_zero hxl,rfl,_,rfl⟩,fun b hb=>(by cases hb),List.nodup_nil⟩
  ·have hflat:(ls.map fun _=>([]:List Nat)).flatten=[]:=by
    rw[List.flatten_eq_nil_iff];intro l hl;obtain ⟨_,_,rfl⟩:=List.mem_map.1 hl;rfl
   refine ⟨[W.heap.size],.inr ⟨W.heap.size,us,⟨(et,(0,0)),.inl rfl⟩,ls.map fun _=>[],by rw[hxl,husz],j0h W _,by omega,?_,u2.2.1,by simp,by rw[hflat],fun i hi => ?_⟩,fun b hb=>by simpa using hb,by simp⟩
   ·have:n≤n*width (.slice e1):=Nat.le_mul_of_pos_right _ hwpos;exact ⟨by simp only[maxLen];omega,by omega⟩
   ·have hin:i<n:=by rw[hxl] at hi;exact hi
    have hil:i<ls.length:=by omega
    have hlsi:ls[i]? = some ls[i]:=List.getElem?_eq_getElem hil;have hns:=l1g hall i _ hlsi;have hrd:=u2.2.2 i _ hlsi;rw[hns] at hrd;simp only[width,Nat.mul_one] at hrd;obtain ⟨u,hu0,p,hup⟩:=a0d.get0 hrd;have hu0':us[i]? = some u:=by
     rw[List.getElem?_take,List.getElem?_drop,Array.getElem?_toList] at hu0
     simpa using hu0
    refine ⟨u,[],hu0',by rw[List.getElem?_map,hlsi];rfl,?_,?_⟩
    ·subst hup;exact ⟨fun e=>(by cases e),fun _=>rfl,rfl⟩
    ·subst hup;rw[List.getElem_map];exact .inl ⟨rfl,rfl,p,rfl⟩
 have hpost:=OpPost.turn (P:=cx.P) (W':=W.alloc (.cells us et)) (F':=F) (E':=E.next (nmOf fx o) (some (.tree (.slice (some ⟨W.heap.size,0,none⟩) n n) bs))) (ver':=a0h h (nmOf fx o)+1)
  (B := .sealed (nmOf fx o) (a0h h (nmOf fx o)+1) (a0h h (nmOf fx o)+1) (.ls (.own e1)) (ls.map fun _=>[]) none false) (ns:=[]) (row:=none) cc.hr cc.hF hN hlt (EnvM.next_le _ _ _) (by rw[hvt];exact EnvM.next_top _ _ _) (fun m hm=>EnvM.next_other _ _ _ m hm)
  ⟨rfl,rfl,rfl,by rw[hsize];omega,fun k hk _=>f0p _ _ k hk⟩ (fun b hb=>by cases hb) (fun b hb=>by rw[a0j] at hb;exact hb) (fun b hb => .inl (by rw[a0j];exact hb))
  ⟨_,by rw[hvt];exact EnvM.next_m _ _ _,⟨_,_,rfl,by rw[hvt];exact EnvM.next_m _ _ _,by rw[hvt,EnvM.next_top];exact Nat.le_refl _,fun j hj hj'=>by
   have:j=E.top (nmOf fx o)+1:=by omega
   subst this;exact ⟨_,EnvM.next_m _ _ _⟩,fun b hb=>by rw[hbs b hb,hsize];omega,fun _=>⟨by simp only[f0m];exact hls,hbn,fun b hb hf=>by
   rw[hbs b hb] at hf
   have:=cc.hF _ hf;omega⟩⟩,fun x hx => .inr (by
   have:x=W.heap.size:=hbs x hx
   omega)⟩
 refine ⟨_,_,hk,OpOk.of (v := .slice (some ⟨W.heap.size,0,none⟩) n n) hexec hpost (RdV.mk1 ⟨?_,⟨.tree (.slice (some ⟨W.heap.size,0,none⟩) n n) bs,?_⟩,fun L hL => ?_⟩ rfl)⟩
 ·rw[hvt,EnvM.next_top];exact Nat.le_refl _
 ·rw[hvt];exact EnvM.next_m _ _ _
 ·rw[hvt,EnvM.next_m] at hL;injection hL with hL;subst hL;rfl
end
end Go.Flat
end
section
namespace Go.Flat
open Go.RowKit (Below)
section
variable {cx:Cx} {call:Oracle cx} {fx:Hints} {W W':World} {F F':Fz} {E E':EnvM} {h:Heap} {N:Nat→Prop} {ρ:Operand→V} {a:Act} {R:Type}
theorem v0g {x:V} {n v0 i:Nat} (h:a1u x=some (n,v0,i)):x = .v false [.sel n v0 i]:=by
 unfold a1u at h;split at h
 ·simp only[Option.some.injEq,Prod.mk.injEq] at h;obtain ⟨rfl,rfl,rfl⟩:=h;rfl
 ·cases h
theorem l0t {x:V} {p:Nat×Nat} (h:slOf x=some p):x = .v false [.sl p.1 p.2]:=by
 unfold slOf at h;split at h
 ·simp only[Option.some.injEq] at h;subst h;rfl
 ·cases h
theorem t0k:∀(Os:List (List Nat)) (i:Nat) (O:List Nat),(Os.flatten++O).Nodup→(Os.set i O).flatten.Nodup∧∀c∈(Os.set i O).flatten,c∈Os.flatten∨c∈O:=by
 intro Os;induction Os with
 | nil=>intro i O _;simp
 | cons P Os ih =>
  intro i O hn;rw[List.flatten_cons,List.append_assoc,List.nodup_append] at hn;obtain ⟨n1,n2,n3⟩:=hn;cases i with
  | zero =>
   rw[List.set_cons_zero,List.flatten_cons];have n4:=n2;rw[List.nodup_append] at n4;refine ⟨List.nodup_append.2 ⟨n4.2.1,n4.1,fun c hc d hd e=>n4.2.2 d hd c hc e.symm⟩,fun c hc => ?_⟩;rcases List.mem_append.1 hc with hc | hc
   ·exact .inr hc
   ·exact .inl (by rw[List.flatten_cons];exact List.mem_append.2 (.inr hc))
  | succ i =>
   obtain ⟨k1,k2⟩:=ih i O n2;rw[List.set_cons_succ,List.flatten_cons];refine ⟨List.nodup_append.2 ⟨n1,k1,fun c hc d hd e=>n3 c hc d (List.mem_append.2 (k2 d hd)) e⟩,fun c hc => ?_⟩;rcases List.mem_append.1 hc with hc | hc
   ·exact .inl (by rw[List.flatten_cons];exact List.mem_append.2 (.inl hc))
   ·rcases k2 c hc with k | k
    ·exact .inl (by rw[List.flatten_cons];exact List.mem_append.2 (.inr k))
    ·exact .inr k
theorem sel_at {P:Program} {n v0 i ver base:Nat} {v w:Value} (hheads:∀j,base≤j→j≤ver→∃bs',E.m n j=some (.tree v bs')) (hb1:base≤v0) (hb2:v0≤ver) (hv:RdV P W F E (.v false [.sel n v0 i]) w) :
  ∃b len cap,v = .slice (some ⟨b,0,none⟩) len cap∧i<len∧w = .pointer (some ⟨b,i,none⟩):=by
 obtain ⟨bs',hbs'⟩:=hheads v0 hb1 hb2;exact hv.single.1.2.2 _ hbs'
theorem op_lsIn {o:Oper} {k:V→Ups→Option R} {r:R} {t:TypeId} {p x:Operand} {c:Ty} {n v0 i:Nat} (cc:Ctx cx call W F E N h ρ a) (hK:KOk N h k) (ho:o.op = .store t p x) (hc:cx.ty t=some c)
  (hp:a1u (ρ p)=some (n,v0,i)) (hk:f1h cx call h c n v0 i (ρ x) (fun u=>k .undef u)=some r):a0r cx W F E N h a o k r:=by
 have hpv:=cc.ρ p;rw[v0g hp] at hpv;have hxv:=cc.ρ x;unfold f1h at hk;split at hk
 case h_2=>cases hk
 rename_i ver n' base top e xs hole x0 hn hx;split at hk
 case isFalse=>cases hk
 rename_i hcond;obtain ⟨rfl,hb1,hb2,rfl⟩:=hcond;obtain ⟨hm1,hk⟩:=a0l hk;simp only[Bool.and_eq_true] at hm1;obtain ⟨h1c,h1e⟩:=hm1;obtain ⟨hhole,hk⟩:=a0l hk;obtain ⟨hil,hk⟩:=a0l hk;obtain ⟨hnoTk,hk⟩:=a0l hk;have hil:=of_decide_eq_true hil;obtain ⟨hcw,hca⟩:=j0w h1c;obtain ⟨hew,hea⟩:=j0w h1e;cases hpk:b0b cx call h e [x0] with
 | none=>rw[hpk] at hk;cases hk
 | some y4 =>
 obtain ⟨y,rest,taken,lent⟩:=y4;rw[hpk] at hk;simp only[Option.bind_some] at hk;split at hk
 case h_2=>cases hk
 obtain ⟨hap,hk⟩:=a0l hk;rw[hx] at hxv;obtain ⟨v,bs,hseal,hnd,hfree,hat,htop,hheads,hNn⟩:=d1g cc.hr hn;obtain ⟨b,len,cap,rfl,hilen,hptr⟩:=sel_at hheads hb1 hb2 hpv;simp only[f0m] at hseal;rcases hseal with ⟨_,_,q,hq⟩ | ⟨b',arr,T,Os,e1,e2,e3,e4,e5,e6,rfl,e7⟩
 ·injection hq with _ hq _;omega
 injection e1 with e1 e1' e1'';injection e1 with e1;injection e1 with e1;subst e1;have hone:(a.eval x).oneCell'=true:=hxv.2.2 rfl;have hcells:=oneCell_cells hone;have hform:formed e (a.eval x):=hxv.formed (by rw[hea]) (by rw[hcells,hew];rfl);obtain ⟨O,p1,p2,_,_⟩:=x0d cc.hc cc.hr e [x0] y [] taken lent hpk D0 (fun p hp=>by rw[n0h e [x0] hnoTk] at hp;cases hp) _ hxv.1;have p1':RdB cx.P D0 e y W (a0g F h E lent) O (one (a.eval x)):=RdB.congr e (fun q _=>by rw[one,Array.getElem?_toList]) p1;obtain ⟨a1,_,a3⟩:=l0c hap
 have hT:Takes F h E (n::taken) ((b::Os.flatten)++O):=Takes.append (t1:=[n]) cc.hr ⟨fun c hc=>⟨n,by simp,hat c hc⟩,hfree,fun _=>hnd⟩ p2;have hTn:=hT.nodup a1;have hle:i+(a.eval x).cells.size≤arr.size:=by rw[hcells];simp;omega
 have hrun:=h0u (v:=a.eval x) (off:=i) cc.tab hc (by rw[hcells,hcw];rfl) T.2 e2 hle (by rw[hcells];simpa using hone);have hbn:b ∉ Os.flatten++O:=by
  rw[List.cons_append,List.nodup_cons] at hTn;exact hTn.1
 have hTn2:(Os.flatten++O).Nodup:=by
  rw[List.cons_append,List.nodup_cons] at hTn;exact hTn.2
 obtain ⟨s1,s2⟩:=t0k Os i O hTn2;have hputsz:(b0j arr i (a.eval x).cells.toList).size=arr.size:=size_put (by simpa using hle);have hlen1:(a.eval x).cells.toList.length=1:=by rw[hcells];rfl
 have hput:∀q:Nat,(b0j arr i (a.eval x).cells.toList)[q]? = if q=i then some (a.eval x) else arr[q]? := by
  intro q;rw[get_put (by simpa using hle),hlen1];by_cases h1:q<i
  ·rw[if_pos h1,if_neg (by omega)]
  ·rw[if_neg h1];by_cases h2:q<i+1
   ·rw[if_pos h2,if_pos (by omega),hcells];have:q-i=0:=by omega
    rw[this];rfl
   ·rw[if_neg h2,if_neg (by omega)]
 have hl:=m0e (ns:=lent) (cs':=b0j arr i (a.eval x).cells.toList) cc.hr (hat b (by simp)) (hfree b (by simp)) (a3 n (by simp) |> fun h q=>h n q rfl);have hset:∀q,q≠b→(W.setRow b (b0j arr i (a.eval x).cells.toList)).heap[q]? = W.heap[q]? := fun q hq=>setRow_other W b q _ hq
 have hsz:(W.setRow b (b0j arr i (a.eval x).cells.toList)).heap.size=W.heap.size:=by simp
 have hsub:∀c∈b::(Os.set i O).flatten,c∈(b::Os.flatten)++O:=by
  intro c hc;rcases List.mem_cons.1 hc with rfl | hc
  ·simp
  ·rcases s2 c hc with k | k
   ·exact List.mem_append.2 (.inl (List.mem_cons_of_mem _ k))
   ·exact List.mem_append.2 (.inr k)
 have hOF:∀c∈(b::Os.flatten)++O,¬a0g F h E lent c:=by
  rintro c hc (k | ⟨q,hq,k⟩)
  ·exact hT.free c hc k
  ·obtain ⟨q',hq',k'⟩:=hT.at_ c hc;exact a3 q' hq' q hq (b0h cc.hr k' k)
 obtain ⟨E2,hop,_,_⟩:=j1a (base':=base) (xs':=xs.set i y) (v' := .slice (some ⟨b,0,none⟩) xs.length arr.size) (O':=b::(Os.set i O).flatten) cc hT htop a1 (fun q hq hq'=>a3 q hq q hq' rfl) (hK _ _ _ hk) hl
  (fun q _ hq=>hset q fun e=>hq (by subst e;simp)) (fun c hc => .inl (hsub c hc))
  (fun c hc=>by
   rw[hsz];obtain ⟨q,_,k⟩:=hT.at_ c (hsub c hc)
   exact cc.hr.lt c ⟨q,k⟩)
  (.inr ⟨b,_,⟨T.1,by rw[hputsz];exact T.2⟩,Os.set i O,by rw[List.length_set,hputsz],setRow_heap W b arr _ _ _ e2,by rw[List.length_set,hputsz];exact e3,by rw[hputsz];exact e4,p0y e5 (by rw[hcells];simpa using hone),by simpa using e6,rfl,fun q hq=>by
   have hq':q<xs.length:=by simpa using hq
   by_cases hqi:q=i
   ·subst hqi;refine ⟨a.eval x,O,by rw[hput,if_pos rfl],by rw[List.getElem?_set];simp[e6,hq'],hform,?_⟩;rw[List.getElem_set_self];exact p1'.later e hl fun z hz=>hset z fun e=>hbn (by subst e;exact List.mem_append.2 (.inr hz))
   ·obtain ⟨u,O2,w1,w2,w3⟩:=e7 q hq';have w3':formed e u∧RdB cx.P D0 e xs[q] W F O2 (one u):=by
     cases hole with
     | none=>exact w3
     | some jc =>
      obtain ⟨j,c'⟩:=jc;have:i=j:=of_decide_eq_true hhole;dsimp only at w3;rw[if_neg (by omega)] at w3;exact w3
    refine ⟨u,O2,by rw[hput,if_neg hqi];exact w1,by rw[List.getElem?_set_ne (fun e=>hqi e.symm)];exact w2,w3'.1,?_⟩;rw[List.getElem_set_ne (fun e=>hqi e.symm)];exact RdB.later e w3'.2 ((a0z lent).trans hl) fun z hz=>hset z fun e=>hbn (by
     subst e
     exact List.mem_append.2 (.inl (List.mem_flatten.2 ⟨O2,List.mem_of_getElem? w2,hz⟩)))⟩)
  (List.nodup_cons.2 ⟨fun hb=>hbn (List.mem_append.2 (s2 b hb)),s1⟩) (fun c hc=>hOF c (hsub c hc)) (fun j hj hj'=>by rw[←e1',←e1''];exact hheads j hj hj')
 exact ⟨_,_,hk,OpOk.skip (by simp[execOp,ho,hptr,hrun]) hop⟩
end
end Go.Flat
end
section
namespace Go.Flat
open Go.RowKit (Below)
section
variable {cx:Cx} {call:Oracle cx} {fx:Hints} {W W':World} {F F':Fz} {E E':EnvM} {h:Heap} {N:Nat→Prop} {ρ:Operand→V} {a:Act} {R:Type}
theorem op_lsOut {o:Oper} {k:V→Ups→Option R} {r:R} {t:TypeId} {x:Operand} {c0:Ty} {n v0 i:Nat} (cc:Ctx cx call W F E N h ρ a) (hK:KOk N h k) (ho:o.op = .load t x) (hc0:cx.ty t=some c0)
  (hp:a1u (ρ x)=some (n,v0,i)) (hk:v0w fx h o c0 n v0 i k=some r):a0r cx W F E N h a o k r:=by
 have hpv:=cc.ρ x;rw[v0g hp] at hpv;unfold v0w at hk;split at hk
 case h_2=>cases hk
 rename_i ver n' base top e xs hn;split at hk
 case isFalse=>cases hk
 rename_i hcond;obtain ⟨rfl,hb1,hb2,rfl⟩:=hcond;obtain ⟨hm1,hk⟩:=a0l hk;simp only[Bool.and_eq_true] at hm1;obtain ⟨h1c,h1e⟩:=hm1;obtain ⟨hcw,hca⟩:=j0w h1c;obtain ⟨hew,hea⟩:=j0w h1e;obtain ⟨hnoTk,hk⟩:=a0l hk;cases hy:xs[i]? with
 | none=>rw[hy] at hk;cases hk
 | some y =>
 rw[hy] at hk;simp only[Option.bind_some,b0n] at hk;split at hk
 case h_2=>cases hk
 rename_i c hc;obtain ⟨hnb,hk⟩:=a0l hk;have hnb:=f0z.1 hnb;rw[List.nodup_cons] at hnb;have hKn:=hK _ _ _ hk;obtain ⟨hil,hix⟩:=List.getElem?_eq_some_iff.1 hy;obtain ⟨v,bs,hseal,hnd,hfree,hat,htop,hheads,_⟩:=d1g cc.hr hn;obtain ⟨b,len,cap,rfl,hilen,hptr⟩:=sel_at hheads hb1 hb2 hpv;simp only[f0m] at hseal;rcases hseal with ⟨_,_,q,hq⟩ | ⟨b',arr,T,Os,e1,e2,e3,e4,e5,e6,rfl,e7⟩
 ·injection hq with _ hq _;omega
 injection e1 with e1 e1' e1'';injection e1 with e1;injection e1 with e1;subst e1;obtain ⟨u,O,q1,q2,q4,q5⟩:=e7 i hil;rw[hix] at q5;have hu1:u.oneCell'=true:=q4.2.1 hea;have hcells:=oneCell_cells hu1;have hexec:(execOp a.eval o).run cx.P W = .ok (.value u) W:=by
  obtain ⟨⟨ti,t1,t2,_⟩,t3,t4,t5,t6⟩:=k0k cc.tab hc0;have hag:aggB cx.P t=false:=by rw[←t3];exact hca
  have hrun:=e0g (P:=cx.P) (W:=W) (b:=b) (o:=i) (vs:=[u]) t1 t6 (by rw[t2,hcw];rfl) (fun j hj=>by
   have:j=0:=by simpa using hj
   subst this;rw[cell_of_row W b _ arr T.1.1 T.1.2 e2]
   simpa using q1) (fun _=>rfl)
  rw[hag] at hrun;simp[execOp,ho,Instr.loadAt,hptr,Instr.sureAddr,hrun]
 have hperm:=m0j Os i O q2;rw[List.nodup_cons] at hnd;have hnd2:(O++(Os.set i []).flatten).Nodup:=hperm.nodup_iff.1 hnd.2;rw[List.nodup_append] at hnd2;have hN:=hKn n (by simp[a0e]);have hT:Takes F h E [n] (b::Os.flatten):=⟨fun c hc=>⟨n,by simp,hat c hc⟩,hfree,fun _=>List.nodup_cons.2 hnd⟩;obtain ⟨z1,z2,z3⟩:=k0z (P:=cx.P) (W':=W) (F2:=a0g F h E []) (O':=b::Os.flatten) (ls:=[]) cc.hr hT (fun m hm=>by simp at hm;subst hm;exact hN) (Later.refl W _) (fun _ _ _=>rfl) (fun b hb => .inl hb) (fun b hb => .inl hb)
 have hmem:∀c∈O,c∈b::Os.flatten:=fun c hc=>List.mem_cons_of_mem _ (hperm.mem_iff.2 (List.mem_append.2 (.inl hc)))
 obtain ⟨E1,c1,us,u1,u2,u3⟩:=f0q (P:=cx.P) (D:=D0) h dm0 e y [] (nmOf fx o) (O:=O) (g:=one u) z1 (by rw[a0j];exact q5) hnd2.1 (fun c hc=>by rw[a0j];exact hfree c (hmem c hc)) (fun c hc=>z2 c (hmem c hc))
  (fun m hm=>by
   obtain ⟨g1,g2⟩:=hKn m (by
    simp only[a0e,List.map_cons,List.mem_cons,List.map_map];right;obtain ⟨y,hy,rfl⟩:=List.mem_map.1 hm
    exact List.mem_map.2 ⟨y,hy,rfl⟩)
   exact ⟨g1,by rw[a0k,a0k];exact g2,a0y cc.hr g1 g2⟩) hnb.2 (DmAt.none hnoTk)
 have htop1:E1.top n=E.top n:=c1.tops n hnb.1;have hus:us=[u]:=by
  have h0:=u2 0 (by omega);have hl:us.length=1:=by rw[u1,hew]
  match us,hl with
  | [w],_ =>
   rw[one,hcells] at h0
   simpa using h0.symm
 rw[hus,hc] at u3;have hE1:=c1.env;have c2:=c1.put (n:=n) (ver:=top+1) (O:=b::Os.flatten) (L := .tree (.slice (some ⟨b,0,none⟩) xs.length arr.size) (b::(Os.set i []).flatten)) (B := .sealed n base (top+1) (.ls e) xs (some (i,c)) false) hN.1 (by rw[a0k,a0k];exact hN.2) hnb.1 (by rw[htop])
  ⟨_,_,rfl,by rw[htop,←htop1];exact EnvM.next_m _ _ _,by rw[EnvM.next_top,htop1,htop];exact Nat.le_refl _,fun q hq hq'=>by
   rcases Nat.lt_or_ge top q with k | k
   ·have:q=E1.top n+1:=by omega
    subst this;exact ⟨_,EnvM.next_m _ _ _⟩
   ·rw[(EnvM.next_le E1 n _).m n q (by omega),hE1.m n q (by omega),←e1',←e1''];exact hheads q hq k,fun y hy=>by
   have hb:=(Array.getElem?_eq_some_iff.1 e2).1;rcases List.mem_cons.1 hy with rfl | hy
   ·exact hb
   ·exact cc.hr.lt y ⟨n,hat y (List.mem_cons_of_mem _ (hperm.mem_iff.2 (List.mem_append.2 (.inr hy))))⟩,fun _=>⟨by
   simp only[f0m];refine .inr ⟨b,arr,T,Os.set i [],rfl,e2,e3,e4,e5,by simpa using e6,rfl,fun q hq => ?_⟩;obtain ⟨u',O2,w1,w2,w4⟩:=e7 q hq;by_cases hqj:q=i
   ·subst hqj;refine ⟨u,[],q1,by rw[List.getElem?_set];simp[e6,hq],?_⟩;dsimp only;rw[if_pos rfl,hcells];exact ⟨rfl,q4,u3.later (Later.refl W _) (EnvM.next_le _ _ _)⟩
   ·refine ⟨u',O2,w1,by rw[List.getElem?_set_ne (fun e=>hqj e.symm)];exact w2,?_⟩;dsimp only;rw[if_neg hqj,a0j];exact w4,List.nodup_cons.2 ⟨fun hb=>hnd.1 (hperm.mem_iff.2 (List.mem_append.2 (.inr hb))),hnd2.2.1⟩,fun y hy=>by
   rw[a0j];rcases List.mem_cons.1 hy with rfl | hy
   ·exact hfree y (by simp)
   ·exact hfree y (List.mem_cons_of_mem _ (hperm.mem_iff.2 (List.mem_append.2 (.inr hy))))⟩⟩ hmem (fun y hy=>by
  have hy:y∈b::(Os.set i []).flatten:=hy;rcases List.mem_cons.1 hy with rfl | hy
  ·exact ⟨by simp,fun hO=>hnd.1 (hperm.mem_iff.2 (List.mem_append.2 (.inl hO))),z2 y (by simp)⟩
  ·have hy':=hperm.mem_iff.2 (List.mem_append.2 (.inr hy))
   exact ⟨List.mem_cons_of_mem _ hy',fun hO=>hnd2.2.2 y hO y hy rfl,z2 y (List.mem_cons_of_mem _ hy')⟩)
 have c3:=c2.toU;obtain ⟨E2,e21,hop⟩:=k0c (P:=cx.P) (W':=W) (F2:=a0g F h E []) (takes:=[]) (ls:=[]) (O':=b::Os.flatten) cc.hr hT (fun m hm=>by cases hm) List.nodup_nil (fun m hm => .inr (by simp at hm;subst hm;simp[a0e])) (fun m hm=>by cases hm) (Later.refl W _) (fun _ _ _=>rfl) (fun b hb => .inl hb) (fun b hb => .inl hb)
  (fun y hy=>cc.hr.lt y ⟨n,hat y hy⟩) (by simpa [c0k,a0i] using hKn) c3
 rw[a0j] at hop;have hval:RdV cx.P W F E2 (.v false [c]) u:=by
  rw[a0j] at u3;refine ⟨?_,(fun e=>by cases e),fun _=>hu1⟩;rw[hcells];exact u3.later (Later.refl W _) ((EnvM.next_le _ _ _).trans e21)
 exact ⟨_,_,hk,OpOk.of hexec hop hval⟩
theorem ls_src {P:Program} {e:Ty} {zs:List (El e)} {bs:List Nat} {w:Value} {Q:Nat→El e→List Nat→Value→Prop} (h:LsRd zs W bs w Q) :
  ∃(news:List Value) (Os:List (List Nat)),Src P W 1 w zs.length news∧Os.length=zs.length∧(∀c∈Os.flatten,c∈bs)∧(bs.Nodup→Os.flatten.Nodup)∧∀i (hi:i<zs.length),∃u O,news[i]? = some u∧Os[i]? = some O∧Q i zs[i] O u:=by
 rcases h with ⟨rfl,rfl,p,rfl⟩ | ⟨b,arr,T,Os,rfl,e2,e3,e4,e5,e6,rfl,e7⟩
 ·refine ⟨[],[],⟨rfl,fun w' _ => ?_,rfl,fun u hu=>(by cases hu)⟩,rfl,fun c hc=>(by cases hc),fun _=>List.nodup_nil,fun i hi=>(by cases hi)⟩;cases p with
  | none=>simp[Builtin.firstCells]
  | some p=>simp[Builtin.firstCells,loadCells,loadCellsFrom]
 ·have htl:(arr.toList.take zs.length).length=zs.length:=by
   have:arr.toList.length=arr.size:=Array.length_toList;rw[List.length_take];omega
  refine ⟨arr.toList.take zs.length,Os,⟨rfl,fun w' hw' => ?_,by rw[htl];simp,fun u hu=>e5 u (List.mem_of_mem_take hu)⟩,e6,fun c hc=>List.mem_cons_of_mem _ hc,fun hn=>(List.nodup_cons.1 hn).2,fun i hi => ?_⟩
  ·refine run_firstCells_some w' 1 _ ⟨b,0,none⟩ _ _ _ (by rw[htl];simp) (fun j u hu => ?_);rw[hw',addr_add,cell_of_row W b _ arr T.1.1 T.1.2 e2];rw[List.getElem?_take] at hu;split at hu
   ·simpa using hu
   ·cases hu
  ·obtain ⟨u,O,k1,k2,k3⟩:=e7 i hi;exact ⟨u,O,by rw[List.getElem?_take,if_pos hi,Array.getElem?_toList];exact k1,k2,k3⟩
theorem op_lsApp {o:Oper} {cl:Go.Call} {k:V→Ups→Option R} {r:R} {p q:Operand} {n v0:Nat} (cc:Ctx cx call W F E N h ρ a) (hK:KOk N h k) (ho:o.op = .call cl) (hc:cl.callee = .builtin .append)
  (hargs:cl.args = #[p,q]) (hp:ρ p = .v false [.sl n v0]) (hk:v0x cx h cl.argTypes n v0 (ρ q) k=some r):a0r cx W F E N h a o k r:=by
 have hpv:=cc.ρ p;rw[hp] at hpv;have hqv:=cc.ρ q;unfold v0x at hk;split at hk
 case h_2=>cases hk
 rename_i et m v1 hsh hx;rw[l0t hx] at hqv;split at hk
 case h_2=>cases hk
 rename_i ct ver n' base top e0 xs ver2 m' base2 top2 e ys hct hn hm;split at hk
 case isFalse=>cases hk
 rename_i hcond;obtain ⟨⟨rfl,hb1,hb2,rfl⟩,⟨rfl,hb3,hb4,rfl⟩,hnm⟩:=hcond;split at hk
 case h_2=>cases hk
 rename_i zs hz;obtain ⟨he,hzs⟩:=a0v hz;injection he with he;subst he;simp only at hzs;subst hzs;obtain ⟨hm1,hk⟩:=a0l hk;simp only[Bool.and_eq_true] at hm1;obtain ⟨hnz,hw1,h1e,hb0⟩:=hm1;obtain ⟨hbytes,hk⟩:=a0l hk;have hbytes:=of_decide_eq_true hbytes;have hw1:=Nat.eq_of_beq_eq_true hw1;have hb0:0<cx.bytes et:=by simpa [Nat.blt_eq] using hb0
 obtain ⟨hew,hea⟩:=j0w h1e;obtain ⟨t,ht,hs⟩:∃t,cl.argTypes[0]? = some t∧cx.shp t = .slice et:=by
  cases ht:cl.argTypes[0]? with
  | none=>rw[ht] at hsh;cases hsh
  | some t=>rw[ht] at hsh;exact ⟨t,rfl,by simpa using hsh⟩
 obtain ⟨ti,z,t1,t2,t3,t4,t5,t6,_⟩:=x0x cc.tab hct;have hnz:=v0q cc.tab hnz;have hu:=c0l cc.tab hs;have hlen:xs.length+zs.length≤maxLen:=by
  have:xs.length+zs.length≤(xs.length+zs.length)*cx.bytes et:=Nat.le_mul_of_pos_right _ hb0;simp only[maxLen];omega
 obtain ⟨v,bs,hseal,hnd,hfree,hat,htop,hheads,hNn⟩:=d1g cc.hr hn;obtain ⟨w,bs2,hseal2,hnd2,hfree2,hat2,htop2,hheads2,hNm⟩:=d1g cc.hr hm;have hv:=sl_val hheads hb1 hb2 hpv;have hw:=sl_val hheads2 hb3 hb4 hqv;simp only[f0m] at hseal hseal2;have hT:Takes F h E [n,m] (bs++bs2):=Takes.append (t1:=[n]) (t2:=[m]) cc.hr ⟨fun c hc=>⟨n,by simp,hat c hc⟩,hfree,fun _=>hnd⟩ ⟨fun c hc=>⟨m,by simp,hat2 c hc⟩,hfree2,fun _=>hnd2⟩;have hnmd:[n,m].Nodup:=by simp[hnm]
 have hTn:=hT.nodup hnmd;obtain ⟨news,Os2,hsrc,ol2,os2,on2,hy⟩:=ls_src (P:=cx.P) hseal2;have hTl:=hTn;rw[List.nodup_append] at hTn;obtain ⟨_,_,hdj⟩:=hTn;have hsrc':Src cx.P W ti.size (a.eval q) zs.length news:=by rw[t2,hw1,hw];exact hsrc
 have hnl:news.length=zs.length:=by have:=hsrc.size;omega
 have fin:∀ {v':Value} {W':World} {O':List Nat},(Builtin.append_ cl.argTypes o.type #[a.eval p,a.eval q]).run cx.P W = .ok v' W' →
   Later W (a0g F h E []) W' (a0g F h E [])→(∀c,c<W.heap.size→c ∉ bs++bs2→W'.heap[c]? = W.heap[c]?)→(∀c∈O',c∈bs++bs2∨W.heap.size≤c)→(∀c∈O',c<W'.heap.size) →
   LsRd (xs++zs) W' O' v' (fun _ y O u=>formed e u∧RdB cx.P D0 e y W' (a0g F h E []) O (one u))→O'.Nodup→v'.oneCell'=true→a0r cx W F E N h a o k r:=by
  intro v' W' O' hrun hl hframe hsub hlt hls hnd' h1;obtain ⟨E2,hop,hm2,htop2⟩:=j1a (base':=top+1) (takes:=[m]) (lent:=[]) cc hT htop hnmd (fun q _ hq'=>by cases hq') (by simpa [a0i] using hK _ _ _ hk) hl hframe hsub hlt hls hnd'
   (fun c hc=>by
    rw[a0j];intro hf;rcases hsub c hc with q | q
    ·exact hT.free c q hf
    ·have:=cc.hF c hf;omega) (fun j hj hj'=>by omega)
  rw[a0j] at hop;refine ⟨_,_,hk,OpOk.of (v:=v') ?_ (by simpa [a0i] using hop) (RdV.mk1 ⟨htop2,⟨_,hm2⟩,fun L hL => ?_⟩ h1)⟩
  ·simp[execOp,ho,resolve,hc,hargs,invoke,builtin,hrun]
  ·rw[hm2] at hL;injection hL with hL;subst hL;rfl
 have grow:∀ {b:Option Addr} {cap:Nat} {olds:List Value} {Os:List (List Nat)},v = .slice b xs.length cap→cap<xs.length+zs.length →
   (∀w':World,(∀a,w'.cell? a=W.cell? a)→(Builtin.firstCells ti.size xs.length (.slice b xs.length cap)).run cx.P w' = .ok olds.toArray w') →
   olds.length=xs.length→(∀u∈olds,u.oneCell'=true)→Os.length=xs.length→(∀c∈Os.flatten,c∈bs)→Os.flatten.Nodup →
   (∀i (hi:i<xs.length),∃u O,olds[i]? = some u∧Os[i]? = some O∧(formed e u∧RdB cx.P D0 e xs[i] W F O (one u)))→a0r cx W F E N h a o k r:=by
  intro b cap olds Os hvs hcap hold h1 h2 h3 h4 h5 h6;have hrun:=k0o (ty:=o.type) ht hnz hu t1 t4 hsrc' hcap (by rw[t3];exact hb0) (by rw[t3];exact hbytes) hold;rw[←hvs,←hv] at hrun;have hge:=grownCap_ge W (xs.length+zs.length) cap et;have hmax:grownCap W (xs.length+zs.length) cap et≤maxLen:=grownCap_le_maxLen W _ _ et hlen;have hzs:(Builtin.zeroCells z.cells (grownCap W (xs.length+zs.length) cap et-(xs.length+zs.length))).toList.length=grownCap W (xs.length+zs.length) cap et-(xs.length+zs.length):=by
   rw[Array.length_toList,size_zeroCells,t5,hw1,Nat.mul_one]
  have hlist:(c0u W z.cells olds news (xs.length+zs.length) cap et).toList=olds++(news++(Builtin.zeroCells z.cells (grownCap W (xs.length+zs.length) cap et-(xs.length+zs.length))).toList):=by
   simp[c0u]
  have hsz:(c0u W z.cells olds news (xs.length+zs.length) cap et).size=grownCap W (xs.length+zs.length) cap et:=by
   rw[←Array.length_toList,hlist,List.length_append,List.length_append,h1,hnl,hzs];omega
  have hget:∀i:Nat,(c0u W z.cells olds news (xs.length+zs.length) cap et)[i]? = (olds++(news++(Builtin.zeroCells z.cells (grownCap W (xs.length+zs.length) cap et-(xs.length+zs.length))).toList))[i]? := by
   intro i;rw[←hlist,Array.getElem?_toList]
  have hl:Later W (a0g F h E []) (W.drew.alloc (.cells (c0u W z.cells olds news (xs.length+zs.length) cap et) et)) (a0g F h E []):=⟨rfl,rfl,rfl,by simp,fun b hb=>f0p W.drew _ b (by rw[a0j] at hb;exact cc.hF b hb),fun _ hb=>hb⟩;have hold':∀c,c<W.heap.size→(W.drew.alloc (.cells (c0u W z.cells olds news (xs.length+zs.length) cap et) et)).heap[c]? = W.heap[c]? := fun c hc=>f0p W.drew _ c hc
  have hin:∀c∈(Os++Os2).flatten,c∈bs++bs2:=fun c hc=>by
   rw[List.flatten_append,List.mem_append] at hc;exact List.mem_append.2 (hc.imp (h4 c) (os2 c))
  have hlts:∀c∈bs++bs2,c<W.heap.size:=fun c hc=>by
   obtain ⟨q,_,k⟩:=hT.at_ c hc;exact cc.hr.lt c ⟨q,k⟩
  refine fin (O':=W.heap.size::(Os++Os2).flatten) hrun hl (fun c hc _=>hold' c hc) (fun c hc => ?_) (fun c hc => ?_) (.inr ⟨W.heap.size,_,⟨(et,(0,0)),.inl rfl⟩,Os++Os2,by rw[List.length_append,hsz],j0h W.drew _,by rw[List.length_append,hsz];exact hge,by rw[hsz];exact ⟨hmax,by omega⟩,?_,by rw[List.length_append,List.length_append,h3,ol2],rfl,fun i hi => ?_⟩)
   (List.nodup_cons.2 ⟨fun hc=>by have:=hlts _ (hin _ hc);omega,?_⟩) rfl
  ·rcases List.mem_cons.1 hc with rfl | hc
   ·exact .inr (Nat.le_refl _)
   ·exact .inl (hin c hc)
  ·rcases List.mem_cons.1 hc with rfl | hc
   ·simp
   ·have:=hlts c (hin c hc);simp;omega
  ·intro u hu;rw[hlist] at hu;rcases List.mem_append.1 hu with hu | hu
   ·exact h2 u hu
   ·rcases List.mem_append.1 hu with hu | hu
    ·exact hsrc.one u hu
    ·exact n0e (n:=(grownCap W (xs.length+zs.length) cap et-(xs.length+zs.length))*z.cells.size) t6 (by omega) u hu
  ·rw[List.length_append] at hi;by_cases hix:i<xs.length
   ·obtain ⟨u,O,k1,k2,k3,k4⟩:=h6 i hix;refine ⟨u,O,by rw[hget,List.getElem?_append_left (by omega)];exact k1,by rw[List.getElem?_append_left (by omega)];exact k2,k3,?_⟩;rw[List.getElem_append_left hix];exact RdB.later e k4 ((a0z []).trans hl) fun c hc=>hold' c (RdB.lt e k4 c hc)
   ·obtain ⟨u,O,k1,k2,k3,k4⟩:=hy (i-xs.length) (by omega);refine ⟨u,O,by rw[hget,List.getElem?_append_right (by omega),h1,List.getElem?_append_left (by omega)];exact k1,by rw[List.getElem?_append_right (by omega),h3];exact k2,k3,?_⟩;rw[List.getElem_append_right (by omega)];exact RdB.later e k4 ((a0z []).trans hl) fun c hc=>hold' c (RdB.lt e k4 c hc)
  ·rw[List.flatten_append,List.nodup_append];exact ⟨h5,on2 hnd2,fun c hc d hd=>hdj c (h4 c hc) d (os2 d hd)⟩
 rcases hseal with ⟨rfl,rfl,ad,rfl⟩ | ⟨b,arr,T,Os,rfl,e2,e3,e4,e5,e6,rfl,e7⟩
 ·rcases Nat.eq_zero_or_pos zs.length with hy0 | hy0
  ·have hyn:zs=[]:=List.eq_nil_of_length_eq_zero hy0;have hn0:news=[]:=List.eq_nil_of_length_eq_zero (by omega);have hrun:=e0w (P:=cx.P) (W:=W) (W':=W) (ty:=o.type) (n:=0) (cap:=0) (b:=ad) ht hnz hu t1 hsrc' (by omega) (fun ad _=>by rw[hn0];simp[storeCells]) (fun _=>rfl);rw[←hv,hy0] at hrun;exact fin (O':=[]) hrun (Later.refl W _) (fun _ _ _=>rfl) (fun c hc=>by cases hc) (fun c hc=>by cases hc) (.inl ⟨by simp[hyn],rfl,ad,rfl⟩) List.nodup_nil rfl
  ·refine grow (b:=ad) (cap:=0) (olds:=[]) (Os:=[]) rfl (by simpa using hy0) (fun w' _ => ?_) rfl (fun u hu=>by cases hu) rfl (fun c hc=>by cases hc) List.nodup_nil (fun i hi=>by simp at hi);cases ad with
   | none=>simp[Builtin.firstCells]
   | some ad=>simp[Builtin.firstCells,loadCells,loadCellsFrom]
 ·by_cases hfit:xs.length+zs.length≤arr.size
  ·have hle:xs.length+news.length≤arr.size:=by omega
   have hst:=d0r (P:=cx.P) b xs.length T.1.1 news 0 arr W T.2 e2 (by simpa using hle) hsrc.one;simp only[Nat.add_zero] at hst;have hrun:=e0w (P:=cx.P) (W:=W) (W':=W.setRow b (b0j arr xs.length news)) (ty:=o.type) (b:=some ⟨b,0,none⟩) ht hnz hu t1 hsrc' hfit
    (fun ad hd=>by injection hd with hd;subst hd;rw[addr_add,t2,hw1,Nat.mul_one,Nat.zero_add];exact hst) (fun e=>by cases e)
   rw[←hv] at hrun;have hl:=m0e (ns:=[]) (cs':=b0j arr xs.length news) cc.hr (hat b (by simp)) (hfree b (by simp)) (by simp);have hset:∀q,q≠b→(W.setRow b (b0j arr xs.length news)).heap[q]? = W.heap[q]? := fun q hq=>setRow_other W b q _ hq
   have hsz:(W.setRow b (b0j arr xs.length news)).heap.size=W.heap.size:=by simp
   have hpsz:(b0j arr xs.length news).size=arr.size:=size_put hle;have hbn:b ∉ Os.flatten++bs2:=by
    rw[List.cons_append,List.nodup_cons] at hTl;exact hTl.1
   have hin:∀c∈(Os++Os2).flatten,c∈Os.flatten++bs2:=fun c hc=>by
    rw[List.flatten_append,List.mem_append] at hc;exact List.mem_append.2 (hc.imp id (os2 c))
   refine fin (O':=b::(Os++Os2).flatten) hrun hl (fun c _ hc=>hset c fun e=>hc (by subst e;simp)) (fun c hc => .inl ?_) (fun c hc => ?_)
    (.inr ⟨b,_,⟨T.1,by rw[hpsz];exact T.2⟩,Os++Os2,by rw[List.length_append,hpsz],setRow_heap W b arr _ _ _ e2,by rw[List.length_append,hpsz];exact hfit,by rw[hpsz];exact e4,p0y e5 hsrc.one,by rw[List.length_append,List.length_append,e6,ol2],rfl,fun i hi => ?_⟩)
    (List.nodup_cons.2 ⟨fun hc=>hbn (hin b hc),?_⟩) rfl
   ·rcases List.mem_cons.1 hc with rfl | hc
    ·simp
    ·rw[List.cons_append];exact List.mem_cons_of_mem _ (hin c hc)
   ·rw[hsz];have:c∈(b::Os.flatten)++bs2:=by
     rcases List.mem_cons.1 hc with rfl | hc
     ·simp
     ·rw[List.cons_append];exact List.mem_cons_of_mem _ (hin c hc)
    obtain ⟨q,_,k⟩:=hT.at_ c this;exact cc.hr.lt c ⟨q,k⟩
   ·rw[List.length_append] at hi;by_cases hix:i<xs.length
    ·obtain ⟨u,O,k1,k2,k3,k4⟩:=e7 i hix;refine ⟨u,O,by rw[get_put hle,if_pos hix];exact k1,by rw[List.getElem?_append_left (by omega)];exact k2,k3,?_⟩;rw[List.getElem_append_left hix];exact RdB.later e k4 ((a0z []).trans hl) fun c hc=>hset c fun e=>hbn (by
      subst e;exact List.mem_append.2 (.inl (List.mem_flatten.2 ⟨O,List.mem_of_getElem? k2,hc⟩)))
    ·obtain ⟨u,O,k1,k2,k3,k4⟩:=hy (i-xs.length) (by omega);refine ⟨u,O,by rw[get_put hle,if_neg hix,if_pos (by omega)];exact k1,by rw[List.getElem?_append_right (by omega),e6];exact k2,k3,?_⟩;rw[List.getElem_append_right (by omega)];exact RdB.later e k4 ((a0z []).trans hl) fun c hc=>hset c fun e=>hbn (by
      subst e;exact List.mem_append.2 (.inr (os2 _ (List.mem_flatten.2 ⟨O,List.mem_of_getElem? k2,hc⟩))))
   ·rw[List.flatten_append,List.nodup_append];rw[List.nodup_cons] at hnd;exact ⟨hnd.2,on2 hnd2,fun c hc d hd=>hdj c (List.mem_cons_of_mem _ hc) d (os2 d hd)⟩
  ·have htl:(arr.toList.take xs.length).length=xs.length:=by
    have:arr.toList.length=arr.size:=Array.length_toList;rw[List.length_take];omega
   refine grow (b:=some ⟨b,0,none⟩) (cap:=arr.size) (olds:=arr.toList.take xs.length) (Os:=Os) rfl (by omega) (fun w' hw' => ?_) htl (fun u hu=>e5 u (List.mem_of_mem_take hu)) e6 (fun c hc=>List.mem_cons_of_mem _ hc) (List.nodup_cons.1 hnd).2 (fun i hi => ?_)
   ·refine run_firstCells_some w' ti.size _ ⟨b,0,none⟩ _ _ _ (by rw[htl,t2,hw1];simp) (fun j u hu => ?_);rw[hw',addr_add,cell_of_row W b _ arr T.1.1 T.1.2 e2];rw[List.getElem?_take] at hu;split at hu
    ·simpa using hu
    ·cases hu
   ·obtain ⟨u,O,k1,k2,k3⟩:=e7 i hi;exact ⟨u,O,by rw[List.getElem?_take,if_pos hi,Array.getElem?_toList];exact k1,k2,k3⟩
end
end Go.Flat
end
section
namespace Go.Flat
open Go.RowKit (Below)
section
variable {cx:Cx} {call:Oracle cx} {fx:Hints} {W W':World} {F F':Fz} {E E':EnvM} {h:Heap} {N:Nat→Prop} {ρ:Operand→V} {a:Act} {R:Type}
theorem argT {ts:Array TypeId} {s:Shp} (h:(ts[0]?).map cx.shp=some s):∃t,ts[0]? = some t∧cx.shp t=s:=by
 cases ht:ts[0]? with
 | none=>rw[ht] at h;cases h
 | some t=>rw[ht] at h;injection h with h;exact ⟨t,rfl,h⟩
theorem y0g {o:Oper} {cl:Go.Call} {b:Builtin} {k:V→Ups→Option R} {r:R} (cc:Ctx cx call W F E N h ρ a) (hK:KOk N h k) (ho:o.op = .call cl) (hc:cl.callee = .builtin b)
  (hk:n0l cx call fx h o b cl.argTypes (cl.args.toList.map ρ) k=some r):a0r cx W F E N h a o k r:=by
 unfold n0l at hk;split at hk
 ·rename_i c ha;split at hk
  ·rename_i s hs;exact op_len cc ho hc ha hs hk
  ·cases hk
 ·rename_i cs ha;split at hk
  ·rename_i n e hs;exact i1t cc ho hc ha hs hk
  ·cases hk
 ·rename_i kd m kd' n ha;exact op_min cc ho hc ha hk
 ·rename_i kd m kd' n ha;exact op_max cc ho hc ha hk
 ·rename_i kd m kd' n kd'' l ha;exact op_min3 cc ho hc ha hk
 ·rename_i kd m kd' n kd'' l ha;exact op_max3 cc ho hc ha hk
 ·rename_i s x ha;obtain ⟨p,q,hargs,hp,hq⟩:=args2 ha;split at hk
  ·rename_i pp hpp;exact op_lsApp (n:=pp.1) (v0:=pp.2) cc hK ho hc hargs (hp.trans (l0t hpp)) (by rw[hq];exact hk)
  split at hk
  ·rename_i et hs hz;split at hk
   case h_2=>cases hk
   rename_i e he;cases hw:e0f cx et e&&Nat.blt 0 (cx.bytes et) with
   | false=>rw[hw] at hk;cases hk
   | true =>
    rw[hw] at hk;obtain ⟨t,ht,hs'⟩:=argT hs;refine i1u (fx:=fx) cc hK ho hc hargs ht hs' hz he hw ?_;rw[hp,hq];exact hk
  ·cases hk
 ·rename_i d s ha;obtain ⟨p,q,hargs,hp,hq⟩:=args2 ha;split at hk
  ·rename_i et hs;split at hk
   case h_2=>cases hk
   rename_i e0 he;obtain ⟨t,ht,hs'⟩:=argT hs;exact op_copy cc ho hc hargs ht hs' he hp hq hk
  ·cases hk
 ·rename_i d ha;obtain ⟨p,hargs,hp⟩:=args1 ha;split at hk
  ·rename_i et hs;obtain ⟨t,ht,hs'⟩:=argT hs;split at hk
   ·exact b1h cc ho hc hargs ht hp ⟨_,c0l cc.tab hs'⟩ hk
   ·split at hk
    case h_2=>cases hk
    rename_i e0 he;exact op_clear cc ho hc hargs ht hs' he hp hk
  ·rename_i kt et hs;obtain ⟨t,ht,hs'⟩:=argT hs;split at hk
   case h_2=>cases hk
   rename_i n v0;split at hk
   case h_2=>cases hk
   rename_i ver n' base top ck e xs hn;split at hk
   case isFalse=>cases hk
   rename_i hcond;obtain ⟨rfl,hb1,hb2,rfl⟩:=hcond;exact b1i cc hK ho hc hargs ht hs' hp hn hb1 hb2 hk
  ·cases hk
 ·cases hk
theorem k1w {kind:Nat} {ty:Option Ty} {x y:V} {kk:Cell→Option R} {r:R} (h:binK kind ty .mul x y kk=some r):binK kind ty .mul y x kk=some r:=by
 unfold binK at h;split at h
 ·rename_i k a k' b;split at h
  ·rename_i hk;have:k=k':=hk.resolve_right (by decide);subst this;unfold binK;simp only[true_or,if_true];simp only[binI] at h ⊢;rw[Int.mul_comm];exact h
  ·cases h
 ·simp[binS] at h
 ·split at h
  ·rename_i heq;cases heq
  ·rename_i heq;cases heq
  ·cases h
 ·split at h
  ·rename_i heq _;cases heq
  ·rename_i heq _;cases heq
  ·cases h
theorem w0d {o:Oper} {k:V→Ups→Option R} {r:R} (cc:Ctx cx call W F E N h ρ a) (hfn:FnOk cx call) (hK:KOk N h k) (hk:evOp cx call fx o ρ h k=some r):a0r cx W F E N h a o k r:=by
 unfold evOp at hk;dsimp only at hk;split at hk
 ·rename_i x ho;exact i1r cc (.inl ho) hk
 ·rename_i x ho;exact i1r cc (.inr ho) hk
 ·rename_i z x y ho;split at hk
  ·rename_i b hz;exact op_pick cc ho hz hk
  ·cases hk
 ·rename_i t ho;split at hk
  ·rename_i e hs;exact b1l (fx:=fx) cc hK ho hs hk
  ·split at hk
   ·rename_i c ht;split at hk
    ·rename_i e z n hrow;cases hown:u0g fx o with
     | false=>rw[hown] at hrow;cases hrow
     | true=>rw[hown] at hrow;exact b1k (fx:=fx) cc hK ho ht hrow hk
    ·exact op_alloc (fx:=fx) cc hK ho ht hk
   ·cases hk
 ·rename_i t x ho;split at hk
  ·rename_i c ag cs ht hx;split at hk
   ·rename_i hl;exact op_box (fx:=fx) cc hK ho hx hl hk
   ·cases hk
  ·cases hk
 ·rename_i t ps ho;split at hk
  case h_2=>cases hk
  rename_i c ht;split at hk
  ·rename_i fs hs;split at hk
   ·rename_i cs hb hall;exact u0h cc ho ht hs hb hall hk
   ·cases hk
  ·rename_i n e hs;split at hk
   ·rename_i cs hb hall;exact b1j cc ho ht hs hb hall hk
   ·cases hk
  ·cases hk
 ·rename_i t n ps ho;split at hk
  case h_2=>cases hk
  rename_i et hs;split at hk
  case h_2=>cases hk
  rename_i e he;split at hk
  case h_2=>cases hk
  rename_i ls hp hw;split at hk
  ·rename_i e' hls;exact f1e (fx:=fx) cc hK ho hs he hp hw hls hk
  split at hk
  case h_2=>cases hk
  rename_i xs lent hx;exact x0g (fx:=fx) cc hK ho hs he hp hw hx hk
 ·rename_i t x ho;split at hk
  ·rename_i pp hpp;split at hk
   case h_2=>cases hk
   rename_i c ht;exact op_lsOut (fx:=fx) (n:=pp.1) (v0:=pp.2.1) (i:=pp.2.2) cc hK ho ht hpp hk
  split at hk
  ·rename_i c d ht hx;exact op_load cc.deRow ho ht hx hk
  ·cases hk
 ·rename_i t p x ho;split at hk
  ·rename_i pp hpp;split at hk
   case h_2=>cases hk
   rename_i c ht;exact op_lsIn (n:=pp.1) (v0:=pp.2.1) (i:=pp.2.2) cc hK ho ht hpp hk
  split at hk
  ·rename_i c pc ag new ht hp hx;split at hk
   ·rename_i hw;exact op_store cc.deRow ho ht hp hx hw hk
   ·cases hk
  ·cases hk
 ·rename_i x ho;split at hk
  ·rename_i c hx;split at hk
   ·rename_i hn;exact b1f cc ho hx hn hk
   ·cases hk
  ·cases hk
 ·rename_i op t x y yt ho;cases hy:p0a y with
  | true=>rw[hy] at hk;exact op_nilSl cc ho hy hk
  | false =>
   rw[hy] at hk;simp only[cond_false] at hk;cases hz:t0i y with
   | true=>rw[hz] at hk;exact op_nilIf cc ho hz hk
   | false =>
   rw[hz] at hk;simp only[cond_false] at hk;cases hm:isMul op&&k1x y with
   | false=>rw[hm] at hk;exact d1b cc ho hk
   | true =>
    rw[hm] at hk;simp only[cond_true] at hk;rw[Bool.and_eq_true] at hm;cases op<;>first | (exact absurd hm.1 (by decide)) | exact d1b cc ho (k1w hk)
 ·rename_i op t x ho;exact op_unOp cc ho hk
 ·rename_i s d x ho;split at hk
  ·rename_i k0 kd k1 n hs hd hx;exact f1d cc ho hs hd hx hk
  ·rename_i b hs hd hx;exact f1b cc ho hs hd hx hk
  ·rename_i et b hs hd hx;split at hk
   ·rename_i he;cases hown:u0g fx o with
    | true =>
     rw[hown] at hk;obtain ⟨hlen,hk⟩:=a0l hk;exact f1c cc hK ho hs hd he hx (of_decide_eq_true hlen) hk
    | false =>
     rw[hown] at hk;exact z0g cc ho hs hd he hx hk
   ·cases hk
  ·rename_i et c hs hd hx;split at hk
   ·rename_i he;exact x0f cc ho hs hd he hx hk
   ·cases hk
  ·cases hk
 ·rename_i f first caps ho
  split at hk
  ·split at hk
   ·rename_i l h0 hc;exact e1x cc ho h0 hc hk
   ·cases hk
  split at hk
  ·rename_i t v lent h0 hc;exact b1g cc ho h0 hc hk
  ·cases hk
 ·rename_i t l c ho;split at hk
  case h_2=>cases hk
  rename_i et hs;split at hk
  case h_2=>cases hk
  rename_i e n m he hl hm;split at hk
  case h_2=>cases hk
  rename_i z hz hw;exact z0e (fx:=fx) cc hK ho hs he hl hm hz hw hk
 ·rename_i t x lo hi mx ho;split at hk
  ·rename_i hs;exact i1n cc ho hs hk
  ·rename_i et hs;split at hk
   ·rename_i ti hti;obtain ⟨ti',h1,_⟩:=(cc.tab et ti hti).info;exact i1p cc ho hs ⟨ti',h1⟩ hk
   ·cases hk
  ·rename_i n et hs;split at hk
   ·exact i1q cc ho hs hk
   ·exact i1o cc ho hs hk
  ·cases hk
 ·rename_i s x f ho;split at hk
  ·rename_i off ft c hf hx;cases hz:Nat.beq (cx.cells ft) 0 with
   | true=>rw[hz] at hk;cases hk
   | false =>
    rw[hz] at hk;simp only[cond_false] at hk;split at hk
    ·exact m0d cc ho hf hx hz rfl hk
    ·exact m0d cc ho hf hx hz rfl hk
    ·exact m0d cc ho hf hx hz rfl hk
    ·cases hk
  ·cases hk
 ·rename_i s x f ho;split at hk
  ·rename_i off ft cs hf hx;split at hk
   case h_2=>cases hk
   rename_i c hc;split at hk
   ·rename_i cs' hcut;exact op_field cc ho hf hx hc hcut hk
   ·cases hk
  ·cases hk
 ·rename_i t x i ho;split at hk
  ·rename_i n hi;exact z0f cc.deRow ho (z0r hi) hk
  ·cases hk
 ·rename_i t x i ho;split at hk
  ·rename_i n hi;exact op_index cc ho hi hk
  ·cases hk
 ·rename_i x i ho;split at hk
  ·rename_i vs hx;split at hk
   ·rename_i ag cs hi;exact e1z cc ho hx hi hk
   ·cases hk
  ·cases hk
 ·rename_i t ho;split at hk
  ·rename_i kt e ht;exact e1w (fx:=fx) cc hK ho hk
  ·cases hk
 ·rename_i t x i ok ho;split at hk
  case h_2=>cases hk
  rename_i kt et n v0 kc key hs hx hi;split at hk
  ·rename_i ver n' base top ck e xs hn;split at hk
   case isFalse=>cases hk
   rename_i hcond;obtain ⟨rfl,hb1,hb2,rfl⟩:=hcond;split at hk
   case h_2=>cases hk
   rename_i key' hce;obtain ⟨ex,rfl⟩:=a0v hce;subst ex;obtain ⟨hm,hk2⟩:=a0l hk;simp only[Bool.and_eq_true] at hm;cases ok with
   | true=>cases hm.1
   | false=>exact i1s cc hK ho hs hx hi hn hb1 hb2 hm.2.1 hm.2.2 hk2
  ·rename_i ver n' base top ck kd xs hn;split at hk
   case isFalse=>cases hk
   rename_i hcond;obtain ⟨rfl,hb1,hb2,rfl⟩:=hcond;split at hk
   case h_2=>cases hk
   rename_i key' hce;obtain ⟨ex,rfl⟩:=a0v hce;subst ex;obtain ⟨hm,hk2⟩:=a0l hk;simp only[Bool.and_eq_true] at hm;exact e1y cc ho hs hx hi hn hb1 hb2 hm.1 hm.2 hk2
  ·cases hk
 ·rename_i t m i v ho;split at hk
  case h_2=>cases hk
  rename_i kt et n v0 kc key c hs hx hi hv;split at hk
  case h_2=>cases hk
  rename_i ver n' base top ck e xs hn;split at hk
  case isFalse=>cases hk
  rename_i hcond;obtain ⟨rfl,hb1,hb2,rfl⟩:=hcond;split at hk
  case h_2=>cases hk
  rename_i key' hce;obtain ⟨ex,rfl⟩:=a0v hce;subst ex;obtain ⟨hm,hk⟩:=a0l hk;simp only[Bool.and_eq_true,Bool.not_eq_true'] at hm;obtain ⟨hnoTk,hk⟩:=a0l hk;cases hp:b0b cx call h e [c] with
  | none=>rw[hp] at hk;cases hk
  | some y =>
   rw[hp] at hk;simp only[Option.bind_some] at hk;obtain ⟨y1,y2,y3,y4⟩:=y;dsimp only at hk;cases y2 with
   | cons=>cases hk
   | nil =>
   obtain ⟨hap,hk2⟩:=a0l hk;exact z0d cc hK ho hs hx hi hv hn hb1 hb2 hm.1 (Nat.eq_of_beq_eq_true hm.2.1) hm.2.2 hnoTk hp hap hk2
 ·rename_i c ho;split at hk
  ·rename_i b hc;exact y0g (fx:=fx) cc hK ho hc hk
  ·rename_i f hc;split at hk
   ·rename_i e he;exact op_ext cc ho hc he hk
   ·exact op_call (fx:=fx) cc hfn hK ho hc hk
  ·rename_i z hc;split at hk
   ·rename_i c' hz;exact op_callV cc ho ‹_› hz hk
   ·cases hk
  ·cases hk
 ·cases hk
theorem d1s {o:Oper} {k:V→Ups→Option R} {r:R} {ρ:Operand→V} {h:Heap} (hk:evOp cx call fx o ρ h k=some r) (rd:Option Nat) (e:Operand→Value):o.semAt rd e=execOp e o:=by
 refine Oper.semAt_eq rd e o fun c hc => ?_
 unfold evOp at hk;rw[hc] at hk;cases hk
end
end Go.Flat
end
section
namespace Go.Flat
open Go.RowKit (Below)
structure Slots where
 nt:Nat
 K:List Nat
 kv:Nat→Value
 I:EnvM→Prop
 up:∀E E',I E→EnvLe E E'→I E'
 md:Bool
def Slots.may (S:Slots) (d:Nat):Prop:=d<S.nt∧d ∉ S.K
structure DefOk (n0:Nat) (W:World) (F:Fz) (live:Nat→Prop) (ds:List Deferred):Prop where
 nodup:ds.Nodup
 at_:∀d∈ds,∃D,d = { target := .collected D,args := #[] }∧W.heap[D]? = some (.deferred (some []))∧n0≤D∧¬F D∧¬live D
theorem DefOk.nil {n0:Nat} {W:World} {F:Fz} {live:Nat→Prop}:DefOk n0 W F live []:=⟨List.nodup_nil,fun d hd=>by cases hd⟩
theorem DefOk.turn {n0:Nat} {W W':World} {F F':Fz} {live live':Nat→Prop} {ds:List Deferred} (h:DefOk n0 W F live ds)
  (hs:∀D,D<W.heap.size→n0≤D→¬F D→¬live D→W.heap[D]? = some (.deferred (some []))→W'.heap[D]? = W.heap[D]? ∧ ¬F' D∧¬live' D):DefOk n0 W' F' live' ds :=
 ⟨h.nodup,fun d hd=>by
  obtain ⟨D,h1,h2,h3,h4,h5⟩:=h.at_ d hd;obtain ⟨k1,k2,k3⟩:=hs D (Array.getElem?_eq_some_iff.1 h2).1 h3 h4 h5 h2
  exact ⟨D,h1,k1.trans h2,h3,k2,k3⟩⟩
section
variable {cx:Cx} {call:Oracle cx} {fx:Hints} {W0 W W':World} {F0 F F':Fz} {O0:List Nat} {E E':EnvM} {h:Heap} {ρ:Operand→V} {a:Act} {R:Type} {nt:Slots} {st:St}
structure StRel (cx:Cx) (W0:World) (F0:Fz) (O0:List Nat) (nt:Slots) (st:St) (a:Act) (W:World) (F:Fz) (E:EnvM):Prop where
 hr:HR cx.P W F E (fun _=>True) st.h
 hF:∀b,F b→b<W.heap.size
 t:∀s,RdV cx.P W F E (getT st.t s) (a.tmps.getD s undef)
 later:Later W0 F0 W F
 frame:∀b,b<W0.heap.size→b ∉ O0→W.heap[b]? = W0.heap[b]?
 own:∀b,a0p st.h E b→b∈O0∨W0.heap.size≤b
 fz:∀b,F b→F0 b∨b∈O0∨W0.heap.size≤b
 size:a.tmps.size=nt.nt
 keep:∀i∈nt.K,a.tmps.getD i undef=nt.kv i
 defers:(nt.md=false→a.defers=[])∧DefOk W0.heap.size W F (a0p st.h E) a.defers
 env:nt.I E
theorem r0b {P:Program} {N:World} (v:Value) (h1:v.oneCell'=true):b0q P N F E (p0h v) v:=by
 unfold p0h;split
 ·exact ⟨rfl,rfl,rfl⟩
 ·exact ⟨rfl,rfl,rfl⟩
 ·exact ⟨rfl,rfl,by simp[Rd,RdP]⟩
 ·exact rfl
 ·exact ⟨none,rfl⟩
 ·exact rfl
 ·exact ⟨rfl,rfl,.nilIface,rfl,rfl,fun _=>rfl,fun e=>by cases e⟩
 ·exact rfl
 ·trivial
theorem k1i {P:Program} (v:Value):RdV P W F E (d1w v) v:=by
 unfold d1w;split
 ·rename_i cs;cases h':cs.toList.all (·.oneCell') with
  | false=>exact trivial
  | true =>
   refine ⟨⟨by simp[Value.cells],fun j c u hj hu => ?_⟩,fun _=>⟨cs,rfl⟩,fun e=>by cases e⟩;simp only[Value.cells] at hu;rw[List.getElem?_map,hu] at hj;simp at hj;subst hj;have h1:u.oneCell'=true:=by
    rw[List.all_eq_true] at h';exact h' u (List.mem_of_getElem? hu)
   exact ⟨r0b u h1,h1⟩
 ·exact trivial
 ·cases h':v.oneCell' with
  | false=>exact trivial
  | true=>exact RdV.mk1 (r0b v h') h'
theorem m0c (hg:GlobOk cx W F) (ht:∀s,RdV cx.P W F E (getT st.t s) (a.tmps.getD s undef)) (x:Operand):RdV cx.P W F E (opnd cx st x) (a.eval x):=by
 cases x with
 | tmp t=>exact ht t
 | const v=>exact k1i v
 | global g =>
  show RdV cx.P W F E (match cx.glob g with | some x => .v false [.pin x.1 x.2 0] | none => .lost) (.pointer (some ⟨g,0,none⟩));cases h:cx.glob g with
  | none=>exact trivial
  | some x =>
   obtain ⟨h1,h2⟩:=hg.val g x.1 x.2 h;exact RdV.mk1 ⟨g,0,rfl,h1,h2⟩ rfl
 | func f=>exact RdV.mk1 ⟨#[],rfl,rfl⟩ rfl
theorem StRel.ctx (hc:CallSound cx call W0 F0) (tab:e0d cx) (hs:StRel cx W0 F0 O0 nt st a W F E):Ctx cx call W F E (fun _=>True) st.h (opnd cx st) a :=
 ⟨hc.later hs.later,tab,hs.hr,m0c (hc.glob.later hs.later) hs.t,hs.hF⟩
theorem r0s {dst:Option Nat} {v:Value} (hd:∀d,dst=some d→d<a.tmps.size) (s:Nat) :
  (a.put dst v).tmps.getD s undef=if dst=some s then v else a.tmps.getD s undef:=by
 cases dst with
 | none=>simp[Act.put]
 | some d =>
  have:=hd d rfl;simp only[Act.put,Array.getD_eq_getD_getElem?,Array.getElem?_setIfInBounds,Option.some.injEq];by_cases e:d=s
  ·subst e;simp[this]
  ·simp[e]
theorem m0v {t:List (Nat×V)} {dst:Option Nat} {x:V} (s:Nat):getT (putV t dst x) s=if dst=some s then x else getT t s:=by
 cases dst with
 | none=>simp[putV]
 | some d =>
  simp only[putV,getT,Option.some.injEq];by_cases e:d=s
  ·subst e;simp
  ·have:Nat.beq d s=false:=by
    cases hb:Nat.beq d s with
    | false=>rfl
    | true=>exact absurd (Nat.eq_of_beq_eq_true hb) e
   simp[this,e]
theorem c1w (dst:Option Nat) (v:Value):(a.put dst v).tmps.size=a.tmps.size:=by
 cases dst<;>simp[Act.put]
theorem put_defers (dst:Option Nat) (v:Value):(a.put dst v).defers=a.defers:=by
 cases dst<;>simp[Act.put]
theorem k1g {o:Oper} (h:(match o.dst with | some d=>Nat.blt d nt.nt && !hasN nt.K d | none=>true)=true) (d:Nat) (e:o.dst=some d):nt.may d:=by
 rw[e] at h;simp only[Bool.and_eq_true,Bool.not_eq_true'] at h;refine ⟨by simpa [Nat.blt_eq] using h.1,fun k => ?_⟩;rw[b0r.2 k] at h;exact absurd h.2 (by simp)
theorem StRel.step {dst:Option Nat} {v:Value} {x:V} {u:Ups} (hs:StRel cx W0 F0 O0 nt st a W F E) (hd:∀d,dst=some d→nt.may d) (hp:OpPost cx.P W F E (fun _=>True) st.h W' F' E' u) (hv:RdV cx.P W' F' E' x v) :
  StRel cx W0 F0 O0 nt { t:=putV st.t dst x,h:=a0u st.h u } (a.put dst v) W' F' E':=by
 have old:∀m b,atName st.h E m b→b∈O0∨W0.heap.size≤b:=fun m b hat=>hs.own b ⟨m,hat⟩
 have hsz:W0.heap.size≤W.heap.size:=hs.later.size;refine ⟨hp.hr,fun b hb => ?_,fun s => ?_,hs.later.trans hp.later,fun b hb hO => ?_,fun b hb => ?_,fun b hb => ?_,by rw[c1w];exact hs.size,fun i hi => ?_,by
  rw[put_defers];refine ⟨hs.defers.1,hs.defers.2.turn fun D hD _ hF hL _=>⟨hp.frame D hD fun n _ hat=>hL ⟨n,hat⟩,fun hf => ?_,fun ⟨m,hat⟩ => ?_⟩⟩
  ·rcases hp.fz D hf with k | ⟨n,_,k⟩ | k
   ·exact hF k
   ·exact hL ⟨n,k⟩
   ·omega
  ·by_cases hm:m∈a0e u
   ·rcases hp.own m D hm hat with ⟨n,_,k⟩ | k
    ·exact hL ⟨n,k⟩
    ·omega
   ·have:atName st.h E' m D:=by
     obtain ⟨ver,B,L,h1,h2⟩:=hat;exact ⟨ver,B,L,by rw[←b0f u st.h m hm];exact h1,h2⟩
    exact hL ⟨m,(k0e hp.env hs.hr).1 this⟩,nt.up _ _ hs.env hp.env⟩
 ·rcases hp.fz b hb with k | ⟨n,_,k⟩ | k
  ·exact Nat.lt_of_lt_of_le (hs.hF b k) hp.later.size
  ·exact Nat.lt_of_lt_of_le (hs.hr.lt b ⟨n,k⟩) hp.later.size
  ·exact k.2
 ·rw[r0s (fun d h=>by rw[hs.size];exact (hd d h).1),m0v];split
  ·exact hv
  ·exact (hs.t s).later hp.later hp.env
 ·rw[hp.frame b (by omega) (fun n _ hat => ?_)]
  ·exact hs.frame b hb hO
  ·rcases old n b hat with k | k
   ·exact hO k
   ·omega
 ·obtain ⟨m,hat⟩:=hb;by_cases hm:m∈a0e u
  ·rcases hp.own m b hm hat with ⟨n,_,k⟩ | k
   ·exact old n b k
   ·exact .inr (by omega)
  ·have:atName st.h E' m b:=by
    obtain ⟨ver,B,L,h1,h2⟩:=hat;exact ⟨ver,B,L,by rw[←b0f u st.h m hm];exact h1,h2⟩
   exact old m b ((k0e hp.env hs.hr).1 this)
 ·rcases hp.fz b hb with k | ⟨n,_,k⟩ | k
  ·exact hs.fz b k
  ·exact .inr (old n b k)
  ·exact .inr (.inr (by omega))
 ·rw[r0s (fun d h=>by rw[hs.size];exact (hd d h).1),if_neg (fun e=>(hd i e).2 hi)];exact hs.keep i hi
theorem StRel.skip {dst:Option Nat} (hs:StRel cx W0 F0 O0 nt st a W F E) (hd:∀d,dst=some d→nt.may d):StRel cx W0 F0 O0 nt { st with t:=putV st.t dst .undef } (a.put dst undef) W F E :=
 hs.step (u:=[]) hd (OpPost.refl hs.hr) rfl
theorem u0t {g:Nat} {b:Bool} (h:a.tmps.getD g undef = .bool b):a.tmps[g]? = some (.bool b):=by
 rw[Array.getD_eq_getD_getElem?] at h;cases hg:a.tmps[g]? with
 | none=>rw[hg] at h;cases h
 | some v=>rw[hg] at h;simp at h;rw[h]
theorem guard_rd {ops:List Oper} {o:Oper} {k:Bool→St→Option R} {r:R} (ht:∀s,RdV cx.P W F E (getT st.t s) (a.tmps.getD s undef)) (hk:w0b ops o st k=some r) :
  ∃run st',k run st'=some r∧Region.wanted o (yielded ops.toArray a.tmps)=run∧st'.h=st.h∧∀s,getT st'.t s=getT st.t s:=by
 unfold w0b at hk;split at hk
 ·rename_i hg;exact ⟨true,st,hk,by simp[Region.wanted,hg],rfl,fun _=>rfl⟩
 ·rename_i j want hg;split at hk
  ·cases hk
  rename_i g hj;have hj':((ops.toArray)[j]?).bind (·.dst)=some g:=by simpa using hj
  split at hk
  ·rename_i b hb;have hv:=ht g;rw[hb] at hv;have hv:=u0t (n0y hv);have same:∀s,getT ((g,V.v false [Cell.val .bool b])::st.t) s=getT st.t s:=by
    intro s;simp only[getT];cases hbe:Nat.beq g s with
    | false=>rfl
    | true=>rw[←Nat.eq_of_beq_eq_true hbe,hb];rfl
   cases b with
   | true=>exact ⟨want,_,hk,by simp only[Region.wanted,hg,yielded,hj',Option.bind_some,hv];cases want<;>rfl,rfl,same⟩
   | false=>exact ⟨!want,_,hk,by simp only[Region.wanted,hg,yielded,hj',Option.bind_some,hv];cases want<;>rfl,rfl,same⟩
  ·rename_i hb;have hv:=ht g;rw[hb] at hv;have hv:a.tmps.getD g undef=undef:=hv;refine ⟨false,st,hk,?_,rfl,fun _=>rfl⟩;simp only[Region.wanted,hg,yielded,hj',Option.bind_some];rw[Array.getD_eq_getD_getElem?] at hv;cases hgt:a.tmps[g]? with
   | none=>cases want<;>rfl
   | some v =>
    rw[hgt] at hv;simp at hv;subst hv;cases want<;>rfl
  ·cases hk
theorem StRel.guard {st':St} (hs:StRel cx W0 F0 O0 nt st a W F E) (h1:st'.h=st.h) (h2:∀s,getT st'.t s=getT st.t s):StRel cx W0 F0 O0 nt st' a W F E :=
 ⟨by rw[h1];exact hs.hr,hs.hF,fun s=>by rw[h2];exact hs.t s,hs.later,hs.frame,by rw[h1];exact hs.own,hs.fz,hs.size,hs.keep,by rw[h1];exact hs.defers,hs.env⟩
theorem all_iff {u:Ups} {n:Nat} (h:u.all (fun x=>Nat.blt x.1 n)=true):∀m∈a0e u,m<n:=by
 intro m hm;simp only[a0e,List.mem_map] at hm;obtain ⟨x,hx,rfl⟩:=hm;rw[List.all_eq_true] at h;have:=h x hx
 simpa [Nat.blt_eq] using this
def InOk (cx:Cx) (call:Oracle cx):Prop :=
 ∀(R:Type) (f:FuncId) (us:List V) (h:Heap) (nm:Nat) (k:V→Heap→Option R) (r:R),call.inl R f us h nm k=some r→(∃s,cx.sig f=some s) ∧
  ∀(W:World) (F:Fz) (E:EnvM) (vs:List Value),GlobOk cx W F→(∀b,F b→b<W.heap.size)→HR cx.P W F E (fun _=>True) h→us.length=vs.length→(∀(i:Nat) p u,us[i]? = some p→vs[i]? = some u→RdV cx.P W F E p u) →
   Calls cx.P f vs.toArray W fun e W'=>∃v F' E' x h',e = .returned v∧k x h'=some r∧HR cx.P W' F' E' (fun _=>True) h'∧RdV cx.P W' F' E' x v∧Later W F W' F'∧EnvLe E E'∧(∀b,F' b→b<W'.heap.size) ∧
    (∀b,b<W.heap.size→¬a0p h E b→W'.heap[b]? = W.heap[b]?)∧(∀b,a0p h' E' b→a0p h E b∨W.heap.size≤b)∧(∀b,F' b→F b∨a0p h E b∨W.heap.size≤b)
theorem d1m (hc:CallSound cx call W0 F0) (hin:InOk cx call) {o:Oper} {c:Go.Call} {f:FuncId} {us:List V} {vs:List Value} {nm:Nat} {k:V→Heap→Option R} {r:R} (ho:o.op = .call c) (hs:StRel cx W0 F0 O0 nt st a W F E) (hd:∀d,o.dst=some d→nt.may d)
  (hk:call.inl R f us st.h nm k=some r) (hlen:us.length=vs.length) (hus:∀(i:Nat) p u,us[i]? = some p→vs[i]? = some u→RdV cx.P W F E p u)
  (hrun : ∀ fn, cx.P.funcs[f]? = some fn → fn.body ≠ none → ¬ fn.name = "runtime.NumGoroutine" → (execOp a.eval o).run cx.P W = .ok (.enter f vs.toArray) W) {rd : Option Nat} {next : Act → World → Prop} {Q : Exit → Act → World → Prop}
  (hQ:∀x h' v W' F' E',k x h'=some r→StRel cx W0 F0 O0 nt { t:=putV st.t o.dst x,h:=h' } (a.put o.dst v) W' F' E'→next (a.put o.dst v) W'):o.wpIn (Rnd rd) 0 cx.P a W next Q:=by
 obtain ⟨⟨s,hsig⟩,hcalls⟩:=hin _ _ _ _ _ _ _ hk;obtain ⟨fn,hf1,hf2,hf3⟩:=hc.fns.plain f s hsig;have hglob:=hc.glob.later hs.later;have hcalls:=hcalls W F E vs hglob hs.hF hs.hr hlen hus;have hsem:o.semAt rd a.eval=execOp a.eval o:=Oper.semAt_eq rd a.eval o fun c' hc'=>by rw[ho] at hc';cases hc'
 have hrun:=hrun fn hf1 (fun e=>by rw[e] at hf3;cases hf3) (by simpa using hf2);refine ⟨fun _ _=>trivial,?_⟩;rw[show (Rnd rd).round=rd from rfl,hsem,hrun,Oper.uponIn_enter];refine ⟨(fun k=>by cases k),p0l (Calls.mono hcalls fun e W' hpost => ?_)⟩;obtain ⟨v,F',E',x,h',rfl,hku,hr,hv,hl,hE,hF,hframe,hown,hfz⟩:=hpost;have hsz:W0.heap.size≤W.heap.size:=hs.later.size;refine hQ x h' v W' F' E' hku ⟨hr,hF,fun s => ?_,hs.later.trans hl,fun b hb hO => ?_,fun b hb => ?_,fun b hb => ?_,by rw[c1w];exact hs.size,fun i hi => ?_,by
  rw[put_defers];refine ⟨hs.defers.1,hs.defers.2.turn fun D hD _ hFD hL _=>⟨hframe D hD hL,fun hf => ?_,fun hat => ?_⟩⟩
  ·rcases hfz D hf with k | k | k
   ·exact hFD k
   ·exact hL k
   ·omega
  ·rcases hown D hat with k | k
   ·exact hL k
   ·omega,nt.up _ _ hs.env hE⟩
 ·rw[r0s (fun d h=>by rw[hs.size];exact (hd d h).1),m0v];split
  ·exact hv
  ·exact (hs.t s).later hl hE
 ·rw[hframe b (by omega) (fun hat => ?_)]
  ·exact hs.frame b hb hO
  ·rcases hs.own b hat with k | k
   ·exact hO k
   ·omega
 ·rcases hown b hb with k | k
  ·exact hs.own b k
  ·exact .inr (by omega)
 ·rcases hfz b hb with k | k | k
  ·exact hs.fz b k
  ·exact .inr (hs.own b k)
  ·exact .inr (.inr (by omega))
 ·rw[r0s (fun d h=>by rw[hs.size];exact (hd d h).1),if_neg (fun e=>(hd i e).2 hi)];exact hs.keep i hi
theorem j1o (hc:CallSound cx call W0 F0) (hin:InOk cx call) {o:Oper} {f:FuncId} {nm:Nat} {k:V→Heap→Option R} {r:R} (hf:inlOf cx o=some f) (hs:StRel cx W0 F0 O0 nt st a W F E) (hd:∀d,o.dst=some d→nt.may d)
  (hk:call.inl R f ((r0x o).toList.map (opnd cx st)) st.h nm k=some r) {rd:Option Nat} {next:Act→World→Prop} {Q:Exit→Act→World→Prop}
  (hQ:∀x h' v W' F' E',k x h'=some r→StRel cx W0 F0 O0 nt { t:=putV st.t o.dst x,h:=h' } (a.put o.dst v) W' F' E'→next (a.put o.dst v) W'):o.wpIn (Rnd rd) 0 cx.P a W next Q:=by
 unfold inlOf at hf;split at hf
 case h_2=>cases hf
 rename_i c ho;split at hf
 case h_2=>cases hf
 rename_i f' hcal;cases hif:cx.inl f' with
 | false=>rw[hif] at hf;cases hf
 | true =>
 rw[hif] at hf;simp only[cond_true,Option.some.injEq] at hf;subst hf;have hargs:r0x o=c.args:=by unfold r0x;rw[ho]
 rw[hargs] at hk;refine d1m (vs:=c.args.toList.map a.eval) hc hin ho hs hd hk (by simp) (fun i p u hp hu => ?_) (fun fn hf1 hf3' hf2' => ?_) hQ
 ·rw[List.getElem?_map] at hp hu;cases hx:c.args.toList[i]? with
  | none=>rw[hx] at hp;cases hp
  | some y =>
   rw[hx] at hp hu;simp only[Option.map_some,Option.some.injEq] at hp hu;subst hp;subst hu;exact m0c (hc.glob.later hs.later) hs.t y
 ·have e1:(c.args.toList.map a.eval).toArray=c.args.map a.eval:=by
   apply Array.ext';simp
  rw[e1];simp[execOp,ho,resolve,hcal,Deferred.ofValue,Act.eval,invoke,callFunc,hf1,hf2',hf3']
theorem k1l (hc:CallSound cx call W0 F0) (hin:InOk cx call) {o:Oper} {p:FuncId×List V} {nm:Nat} {k:V→Heap→Option R} {r:R} (hf:cloOf o (opnd cx st)=some p) (hs:StRel cx W0 F0 O0 nt st a W F E) (hd:∀d,o.dst=some d→nt.may d)
  (hk:call.inl R p.1 p.2 st.h nm k=some r) {rd:Option Nat} {next:Act→World→Prop} {Q:Exit→Act→World→Prop}
  (hQ:∀x h' v W' F' E',k x h'=some r→StRel cx W0 F0 O0 nt { t:=putV st.t o.dst x,h:=h' } (a.put o.dst v) W' F' E'→next (a.put o.dst v) W'):o.wpIn (Rnd rd) 0 cx.P a W next Q:=by
 unfold cloOf at hf;split at hf
 case h_2=>cases hf
 rename_i c ho;split at hf
 case h_2=>cases hf
 rename_i t hcal;split at hf
 case h_2=>cases hf
 rename_i f caps hclo;simp only[Option.some.injEq] at hf;subst hf;have hglob:=hc.glob.later hs.later;have hv:=m0c hglob hs.t (.tmp t);rw[hclo] at hv;obtain ⟨bs,hval,hbl,hbox⟩:=hv.single.1;refine d1m (vs:=c.args.toList.map a.eval++bs.map fun b=>Value.pointer (some ⟨b,0,none⟩)) hc hin ho hs hd hk (by simp[hbl]) (fun i p u hp hu => ?_) (fun fn hf1 hf3' hf2' => ?_) hQ
 ·by_cases hi:i<c.args.toList.length
  ·rw[List.getElem?_append_left (by simpa using hi),List.getElem?_map] at hp hu;cases hx:c.args.toList[i]? with
   | none=>rw[hx] at hp;cases hp
   | some y =>
    rw[hx] at hp hu;simp only[Option.map_some,Option.some.injEq] at hp hu;subst hp;subst hu;exact m0c hglob hs.t y
  ·rw[List.getElem?_append_right (by simpa using hi),List.getElem?_map,List.length_map] at hp hu;cases hx:caps[i-c.args.toList.length]? with
   | none=>rw[hx] at hp;cases hp
   | some q =>
    cases hb:bs[i-c.args.toList.length]? with
    | none=>rw[hb] at hu;cases hu
    | some b =>
     rw[hx] at hp;rw[hb] at hu;simp only[Option.map_some,Option.some.injEq] at hp hu;subst hp;subst hu;obtain ⟨g1,g2⟩:=hbox _ q b hx hb;refine RdV.mk1 ⟨g1,⟨_,g2⟩,fun L hL => ?_⟩ rfl;rw[g2] at hL;injection hL with hL;subst hL;rfl
 ·have e1:(c.args.toList.map a.eval++bs.map fun b=>Value.pointer (some ⟨b,0,none⟩)).toArray=c.args.map a.eval++(bs.map fun b=>Value.pointer (some ⟨b,0,none⟩)).toArray:=by
   apply Array.ext';simp
  rw[e1];simp[execOp,ho,resolve,hcal,Deferred.ofValue,hval,invoke,callFunc,hf1,hf2',hf3']
theorem c1c (hc:CallSound cx call W0 F0) (tab:e0d cx) (hfn:FnOk cx call) (hin:InOk cx call) (all:List Oper) (rd:Option Nat) (Q:Exit→Act→World→Prop):∀(ops:List Oper) (i:Nat) (st:St) (a:Act) (W:World) (F:Fz) (E:EnvM) (k:St→Option R) (r:R),
  all.drop i=ops→z0y nt.nt nt.K ops=true→StRel cx W0 F0 O0 nt st a W F E→c1d cx call fx all ops st k=some r →
  (∀st' a' W' F' E',k st'=some r→StRel cx W0 F0 O0 nt st' a' W' F' E'→Q .normal a' W')→wpOpsIn (Rnd rd) 0 cx.P all.toArray Q (List.range' i ops.length) a W:=by
 intro ops;induction ops with
 | nil =>
  intro i st a W F E k r _ _ hs hk hQ;exact hQ st a W F E hk hs
 | cons o rest ih =>
  intro i st a W F E k r hdrop hd hs hk hQ;have hget:all[i]? = some o:=by
   have:(all.drop i)[0]? = some o:=by rw[hdrop];rfl
   rw[List.getElem?_drop] at this
   simpa using this
  have hdrop':all.drop (i+1)=rest:=by rw[←List.tail_drop,hdrop];rfl
  simp only[z0y,List.all_cons,Bool.and_eq_true] at hd;obtain ⟨hd1,hd2⟩:=hd;have hdst:∀d,o.dst=some d→nt.may d:=fun d e=>k1g hd1 d e
  simp only[List.length_cons,List.range'_succ];simp only[c1d] at hk;obtain ⟨run,st1,hk1,hwant,he1,he2⟩:=guard_rd hs.t hk;have hs1:=hs.guard he1 he2;have hg:(all.toArray)[i]? = some o:=by simpa using hget
  simp only[wpOpsIn,hg];cases run with
  | true =>
   simp only[hwant,if_true];dsimp only at hk1;split at hk1
   ·rename_i f hf;exact j1o hc hin hf hs1 hdst hk1 fun x h' v W' F' E' hku hs'=>ih (i+1) _ _ W' F' E' k r hdrop' hd2 hs' hku hQ
   split at hk1
   ·rename_i p hf;exact k1l hc hin hf hs1 hdst hk1 fun x h' v W' F' E' hku hs'=>ih (i+1) _ _ W' F' E' k r hdrop' hd2 hs' hku hQ
   have hsem:=d1s hk1;have hsound:=w0d (fx:=fx) (hs1.ctx hc tab) hfn (o:=o) (r:=r) ?_ hk1
   ·obtain ⟨x,u,hku,hok⟩:=hsound;dsimp only at hku;split at hku
    case h_2=>cases hku
    refine hok rd _ _ (hsem rd _) fun v W' F' E' hp hv => ?_
    exact ih (i+1) _ _ W' F' E' k r hdrop' hd2 (hs1.step hdst hp hv) hku hQ
   ·intro x u r' hku n hn;dsimp only at hku;split at hku
    case h_2=>cases hku
    rename_i hall;exact ⟨trivial,all_iff hall n hn⟩
  | false =>
   simp only[hwant,Bool.false_eq_true,if_false];exact ⟨fun _ _=>trivial,ih (i+1) _ _ W F E k r hdrop' hd2 (hs1.skip hdst) hk1 hQ⟩
end
end Go.Flat
end
section
namespace Go.Flat
section
variable {cx:Cx} {call:Oracle cx} {fx:Hints} {h:Heap} {ρ:Operand→V} {R:Type}
theorem r0y {α β:Type} (o:Option α) (f:α→Option R) (f':α→Option β) (g:β→Option R) (h:∀x,f x=(f' x).bind g):o.bind f=(o.bind f').bind g:=by cases o<;>simp[h]
theorem via {α β:Type} (o:Option α) {A:Option R} {B:Option β} {k:α→Option R} {k':α→Option β} {g:β→Option R} (h1:A=o.bind k) (h2:B=o.bind k') (h3:∀x,k x=(k' x).bind g):A=B.bind g:=by
 rw[h1,h2];exact r0y o k k' g h3
theorem b0e (b:Bool) (o:Option R) {α:Type} (f:α→Option R) (p:Option α) (hp:o=p.bind f):must b o=(must b p).bind f:=by
 cases b<;>simp[must,hp]
theorem p0j {α:Type} (b:Bool) (o o':Option R) {p p':Option α} {g:α→Option R} (h:o=p.bind g) (h':o'=p'.bind g):(bif b then o else o')=(bif b then p else p').bind g:=by cases b<;>assumption
theorem rowK_nat {α:Type} {e:Ty} {xs:List (El e)}:∀(n j:Nat) (k:List Cell→Option R) (f:List Cell→Option α) (g:α→Option R),(∀c,k c=(f c).bind g)→rowK e xs n j k=(rowK e xs n j f).bind g:=by
 intro n;induction n with
 | zero=>intro j k f g h;exact h []
 | succ n ih =>
  intro j k f g h;unfold rowK;exact r0y _ _ _ _ fun y=>ih _ _ _ _ fun c=>h _
theorem z0k (w:Nat) (c:Cell) (k:List Cell→Option R):o0y h w c k=(o0y h w c some).bind k:=by
 unfold o0y;split
 ·split
  ·split
   ·split<;>rfl
   ·rfl
  ·rfl
 ·split<;>rfl
 ·split
  ·split
   ·refine p0j _ _ _ ?_ ?_
    ·refine r0y _ _ _ _ fun y => ?_
     split<;>rfl
    ·refine p0j _ _ _ ?_ rfl;rw[w0x,w0x];exact rowK_nat _ _ _ _ _ fun c=>p0j _ _ _ rfl rfl
   ·rfl
  ·rfl
 ·rfl
theorem u0v (c:Cell) (new:List Cell) (k:Ups→Option R):u0w cx call h c new k=(u0w cx call h c new some).bind k:=by
 unfold u0w;split
 ·split
  ·split
   ·split<;>rfl
   ·rfl
  ·rfl
 ·split
  ·split
   ·refine p0j _ _ _ ?_ ?_
    ·refine r0y _ _ _ _ fun y => ?_
     split
     ·split
      ·split<;>rfl
      ·rfl
     ·rfl
    ·refine p0j _ _ _ ?_ rfl;split
     ·refine b0e _ _ _ _ ?_;split<;>rfl
     ·rfl
   ·rfl
  ·rfl
 ·rfl
theorem n0m (e:Ty) (c:Cell) (k:List (El e)→Option R):arrK cx call h e c k=(arrK cx call h e c some).bind k:=by
 unfold arrK;split<;>rfl
theorem d1j (s:Shp) (c:Cell) (k:Nat→Option R):lenK h s c k=(lenK h s c some).bind k:=by
 unfold lenK;split
 ·split<;>rfl
 ·split
  ·rfl
  ·rfl
  ·split
   ·split<;>rfl
   ·rfl
  ·rfl
  ·split
   ·split<;>rfl
   ·rfl
  ·rfl
 ·split
  ·split
   ·split<;>rfl
   ·rfl
  ·rfl
 ·rfl
theorem m0x (i:Int) {α:Type} (k:Nat→Option R) (f:Nat→Option α) (g:α→Option R) (hk:∀j,k j=(f j).bind g):∀n j,l0y i n j k=(l0y i n j f).bind g:=by
 intro n;induction n with
 | zero=>intro j;rfl
 | succ n ih =>
  intro j;simp only[l0y];cases decide (i=(j:Int)) with
  | true=>exact hk j
  | false=>exact ih _
theorem e0s {α:Type} (b:Bool) (o:Option R) (p:Option α) (g:α→Option R) (h:o=p.bind g):(bif b then o else none)=(bif b then p else none).bind g:=by cases b<;>simp[h]
theorem n0q (t:TypeId) (x:V) (i:Int) (k:Cell→Option R):i0a cx h t x i k=(i0a cx h t x i some).bind k:=by
 unfold i0a;split
 ·cases Nat.beq _ 0 with
  | true=>rfl
  | false =>
   simp only[cond_false];split
   ·refine m0x _ _ _ _ ?_ _ _;intro _;rfl
   ·split
    ·cases at? _ i<;>rfl
    ·refine m0x _ _ _ _ ?_ _ _;intro _;rfl
   ·split
    ·exact b0e _ _ _ _ rfl
    ·refine m0x _ _ _ _ ?_ _ _;intro _;rfl
   ·rfl
 ·split
  ·refine e0s _ _ _ _ ?_;cases at? _ i<;>rfl
  ·split
   ·split
    ·refine e0s _ _ _ _ ?_;cases at? _ i<;>rfl
    ·rfl
   ·rfl
  ·split
   ·split
    ·refine e0s _ _ _ _ ?_;cases at? _ i<;>rfl
    ·rfl
   ·rfl
  ·split
   ·split
    ·refine e0s _ _ _ _ ?_;cases at? _ i<;>rfl
    ·rfl
   ·rfl
  ·rfl
 ·rfl
theorem v0y (t:TypeId) (x:V) (i:Int) (k:V→Option R):v0z cx t x i k=(v0z cx t x i some).bind k:=by
 unfold v0z;split
 ·split
  ·split
   ·cases at? _ i<;>rfl
   ·refine m0x _ _ _ _ (fun j => ?_) _ _;split<;>rfl
  ·rfl
 ·cases at? _ i<;>rfl
 ·rfl
theorem g1v (n l:Nat) (hi:Option V) {α:Type} (k:Nat→Nat→Option R) (f:Nat→Nat→Option α) (g:α→Option R) (hk:∀i j,k i j=(f i j).bind g):upK n l hi k=(upK n l hi f).bind g:=by
 unfold upK;split
 ·exact b0e _ _ _ _ (hk _ _)
 ·split
  ·exact b0e _ _ _ _ (hk _ _)
  ·rfl
theorem e0v (n:Nat) (lo hi:Option V) {α:Type} (k:Nat→Nat→Option R) (f:Nat→Nat→Option α) (g:α→Option R) (hk:∀i j,k i j=(f i j).bind g):h0e n lo hi k=(h0e n lo hi f).bind g:=by
 unfold h0e;split
 ·exact g1v _ _ _ _ _ _ hk
 ·split
  ·exact b0e _ _ _ _ (g1v _ _ _ _ _ _ hk)
  ·rfl
theorem v0c (et:TypeId) (x:V) (lo hi mx:Option V) (k:Cell→Option R):v0d cx h et x lo hi mx k=(v0d cx h et x lo hi mx some).bind k:=by
 unfold v0d;split
 ·split
  ·split
   ·rfl
   ·rfl
   ·split
    ·split<;>rfl
    ·rfl
   ·rfl
  ·rfl
 ·split
  ·exact e0s _ _ _ _ (e0v _ _ _ _ _ _ fun _ _=>rfl)
  ·exact e0v _ _ _ _ _ _ fun _ _=>rfl
  ·split
   ·split
    ·exact e0s _ _ _ _ (e0v _ _ _ _ _ _ fun _ _=>rfl)
    ·rfl
   ·rfl
  ·split
   ·split
    ·exact e0s _ _ _ _ (e0v _ _ _ _ _ _ fun _ _=>rfl)
    ·rfl
   ·rfl
  ·rfl
theorem v0a (n:Nat) (et:TypeId) (x:V) (lo hi mx:Option V) (k:Cell→Option R):v0b cx h n et x lo hi mx k=(v0b cx h n et x lo hi mx some).bind k:=by
 unfold v0b;split
 ·split
  ·split
   ·exact e0s _ _ _ _ (b0e _ _ _ _ (e0v _ _ _ _ _ _ fun _ _=>rfl))
   ·rfl
  ·rfl
 ·rfl
theorem e1p (n:Nat) (et:TypeId) (x:V) (lo hi mx:Option V) {α:Type} (k:Cell→Ups→Option R) (f:Cell→Ups→Option α) (g:α→Option R) (hk:∀c u,k c u=(f c u).bind g):sliceB cx h n et x lo hi mx k=(sliceB cx h n et x lo hi mx f).bind g:=by
 unfold sliceB;split
 ·split
  ·split
   ·split
    ·exact e0v _ _ _ _ _ _ fun _ _=>hk _ _
    ·rfl
   ·rfl
  ·rfl
 ·rfl
theorem u0y (x:V) (lo hi mx:Option V) (k:Cell→Option R):u0z x lo hi mx k=(u0z x lo hi mx some).bind k:=by
 unfold u0z;split
 ·exact e0v _ _ _ _ _ _ fun _ _=>rfl
 ·rfl
theorem t0z (o:Oper) (e:Ty) (bytes:Nat) (s x:V) (k:Cell→Ups→Option R):q0m cx call fx h o e bytes s x k=(q0m cx call fx h o e bytes s x fun c u=>some (c,u)).bind fun p=>k p.1 p.2:=by
 have news:∀ {α:Type} (kk:List (El e)→Option R) (f:List (El e)→Option α) (g:α→Option R),(∀ys,kk ys=(f ys).bind g) →
   (match x with
   | .v false [.val .str b]=>match b0p (a := .slice (.int .u8)) (b := .slice e) ((b:List UInt8).map fun (c:UInt8)=>(c.toNat:Int)) with | some y=>kk y | none=>none
   | .v false [c]=>arrK cx call h e c kk
   | _=>none) =
   (match x with
   | .v false [.val .str b]=>match b0p (a := .slice (.int .u8)) (b := .slice e) ((b:List UInt8).map fun (c:UInt8)=>(c.toNat:Int)) with | some y=>f y | none=>none
   | .v false [c]=>arrK cx call h e c f
   | _=>none).bind g:=by
  intro α kk f g hk;split
  ·split
   ·exact hk _
   ·rfl
  ·rw[n0m,n0m e _ f];cases arrK cx call h e _ some with
   | none=>rfl
   | some ys=>exact hk ys
  ·rfl
 unfold q0m;dsimp only;split
 ·exact news _ _ _ fun ys=>b0e _ _ _ _ rfl
 ·split
  ·split
   ·split
    ·exact news _ _ _ fun ys=>b0e _ _ _ _ rfl
    ·rfl
   ·rfl
  ·rfl
 ·split
  ·split
   ·split
    ·exact news _ _ _ fun ys=>b0e _ _ _ _ rfl
    ·rfl
   ·rfl
  ·rfl
 ·rfl
theorem v0m (c:Cell) {α:Type} (k:(n ver off len:Nat)→(e:Ty)→List (El e)→Option R) (f:(n ver off len:Nat)→(e:Ty)→List (El e)→Option α) (g:α→Option R)
  (hk:∀n ver off len e xs,k n ver off len e xs=(f n ver off len e xs).bind g):o0t h c k=(o0t h c f).bind g:=by
 unfold o0t;split
 ·split
  ·split
   ·exact hk _ _ _ _ _ _
   ·rfl
  ·rfl
 ·split
  ·split
   ·exact b0e _ _ _ _ (hk _ _ _ _ _ _)
   ·rfl
  ·rfl
 ·rfl
theorem f1i (ts:Array TypeId) (n v0:Nat) (x:V) (k:V→Ups→Option R):v0x cx h ts n v0 x k=(v0x cx h ts n v0 x fun x u=>some (x,u)).bind fun p=>k p.1 p.2:=by
 unfold v0x;split
 ·split
  ·split
   ·split
    ·exact b0e _ _ _ _ (b0e _ _ _ _ rfl)
    ·rfl
   ·rfl
  ·rfl
 ·rfl
theorem a1i (o:Oper) (b:Builtin) (ts:Array TypeId) (args:List V) (k:V→Ups→Option R) :
  n0l cx call fx h o b ts args k=(n0l cx call fx h o b ts args fun x u=>some (x,u)).bind fun p=>k p.1 p.2:=by
 unfold n0l;split
 ·split
  ·exact via _ (d1j _ _ _) (d1j _ _ _) fun _=>rfl
  ·rfl
 ·split<;>rfl
 ·rfl
 ·rfl
 ·rfl
 ·rfl
 ·split
  ·exact f1i _ _ _ _ _
  split
  ·split
   ·refine e0s _ _ _ _ ?_;exact via _ (t0z _ _ _ _ _ _) (t0z _ _ _ _ _ _) fun _=>rfl
   ·rfl
  ·rfl
 ·split
  ·split
   ·refine v0m _ _ _ _ fun n ver off len e xs => ?_
    split
    ·split
     ·split<;>rfl
     ·exact via _ (n0m _ _ _) (n0m _ _ _) fun _=>rfl
    ·rfl
   ·rfl
  ·rfl
 ·split
  ·split
   ·rfl
   ·split
    ·refine v0m _ _ _ _ fun n ver off len e xs => ?_
     split
     ·split<;>rfl
     ·rfl
    ·rfl
  ·split
   ·split
    ·split<;>rfl
    ·rfl
   ·rfl
  ·rfl
 ·rfl
theorem l1b (dm:Dm) (t:Ty) (c:Cell) (x:El t) (nm:Nat) {α:Type} (k:Ups→Nat→Option R) (f:Ups→Nat→Option α) (g:α→Option R) (hk:∀u n,k u n=(f u n).bind g):m0a.backK h dm t c x nm k=(m0a.backK h dm t c x nm f).bind g:=by
 unfold m0a.backK;split
 ·rw[b0n,b0n];exact b0e _ _ _ _ (hk _ _)
 ·rw[b0n,b0n];exact hk _ _
 ·exact hk _ _
 ·split
  ·split
   ·exact b0e _ _ _ _ (hk _ _)
   ·rfl
  ·rfl
 ·split
  ·split
   ·exact hk _ _
   ·rfl
  ·rfl
 ·split
  ·split
   ·exact hk _ _
   ·rfl
  ·rfl
 ·rfl
theorem z0b (dm:Dm) (e:Ty×Option Cell) (x:El e.1) (nm:Nat) {α:Type} (k:List (Bool×List Cell)→Ups→Nat→Option R) (f:List (Bool×List Cell)→Ups→Nat→Option α) (g:α→Option R)
  (hk:∀vs u n,k vs u n=(f vs u n).bind g):x0e h dm e x nm k=(x0e h dm e x nm f).bind g:=by
 obtain ⟨t,oc⟩:=e;cases oc with
 | none=>simp only[x0e];rw[b0n,b0n];exact hk _ _ _
 | some c=>simp only[x0e];exact l1b _ _ _ _ _ _ _ _ fun u n=>hk _ _ _
theorem i1l (dm:Dm):∀(bt:List (Ty×Option Cell)) (y:El (tup (bt.map Prod.fst))) (nm:Nat) {α:Type} (k:List (Bool×List Cell)→Ups→Option R) (f:List (Bool×List Cell)→Ups→Option α) (g:α→Option R),
  (∀vs u,k vs u=(f vs u).bind g)→m0a h dm bt y nm k=(m0a h dm bt y nm f).bind g:=by
 intro bt;induction bt with
 | nil=>intro y nm α k f g hk;exact hk _ _
 | cons e r ih =>
  intro y nm α k f g hk;cases r with
  | nil=>rw[t0a,t0a];exact z0b _ _ _ _ _ _ _ fun vs u n=>hk _ _
  | cons e2 r=>rw[p0w,p0w];exact z0b _ _ _ _ _ _ _ fun vs u n=>ih _ _ _ _ _ fun vs' u'=>hk _ _
theorem k1r (o:Oper) (f:FuncId) (args:List V) (k:V→Ups→Option R):g1h cx call fx h o f args k=(g1h cx call fx h o f args fun x u=>some (x,u)).bind fun p=>k p.1 p.2:=by
 unfold g1h;split
 ·rfl
 ·split
  ·rfl
  ·split
   ·dsimp only;split
    ·rfl
    ·cases call f _ with
     | none=>rfl
     | some r =>
      simp only[Option.bind_some];split
      ·rfl
      ·exact b0e _ _ _ _ (i1l _ _ _ _ _ _ _ fun vs u=>b0e _ _ _ _ rfl)
   ·rfl
theorem extK_nat (e:Nat) (args:List V) (k:V→Ups→Option R):extK e args k=(extK e args fun x u=>some (x,u)).bind fun p=>k p.1 p.2:=by
 unfold extK;split
 ·exact b0e _ _ _ _ rfl
 ·exact b0e _ _ _ _ rfl
 ·rfl
theorem k1q (c:Cell) (args:List V) (k:V→Ups→Option R):g1g cx call h c args k=(g1g cx call h c args fun x u=>some (x,u)).bind fun p=>k p.1 p.2:=by
 unfold g1g;split
 ·split
  ·split
   ·rename_i p _ _ _ _ _;cases p _<;>rfl
   ·rfl
  ·rfl
 ·split
  ·split
   ·dsimp only;split
    ·split
     ·rename_i p _ _ _ _ _;cases p _<;>rfl
     ·rfl
    ·rfl
   ·rfl
  ·rfl
 ·rfl
theorem binI_nat (op:BinOp) (kd:IntKind) (x y:Int) (k:Cell→Option R):binI op kd x y k=(binI op kd x y some).bind k:=by
 cases op<;>simp only[binI]<;>(try rfl)
 ·cases decide (y=0)<;>rfl
 ·cases decide (y=0)<;>rfl
 ·cases decide (y<0)<;>rfl
 ·cases decide (y<0)<;>rfl
theorem binS_nat (op:BinOp) (x y:List UInt8) (k:Cell→Option R):binS op x y k=(binS op x y some).bind k:=by
 cases op<;>simp only[binS]<;>(try rfl);exact e0s _ _ _ _ rfl
theorem d1z (kind:Nat) (ty:Option Ty) (op:BinOp) (x y:V) (k:Cell→Option R):binK kind ty op x y k=(binK kind ty op x y some).bind k:=by
 unfold binK;split
 ·split
  ·exact binI_nat _ _ _ _ _
  ·rfl
 ·exact binS_nat _ _ _ _
 ·split<;>rfl
 ·split<;>rfl
theorem v0r (kind:Nat) (op:BinOp) (x:V) (k:Cell→Option R):v0s kind op x k=(v0s kind op x some).bind k:=by
 unfold v0s;split
 ·rename_i xs;cases decide (xs.length=0)<;>rfl
 ·rename_i xs;cases decide (xs.length=0)<;>rfl
 ·rfl
 ·rfl
 ·rfl
theorem v0t (kind:Nat) (op:BinOp) (x:V) (k:Cell→Option R):v0u kind op x k=(v0u kind op x some).bind k:=by
 unfold v0u;split<;>rfl
theorem g1w (op:UnOp) (x:V) (k:Cell→Option R):unK op x k=(unK op x some).bind k:=by
 unfold unK;split<;>rfl
theorem t0v {α β:Type} (m:Option β) (f:β→Option R) (g:β→Option α) (k:α→Option R) (h:∀y,f y=(g y).bind k):m.bind f=(m.bind g).bind k:=by
 cases m with
 | none=>rfl
 | some y=>exact h y
theorem j1c {o:Oper} {n ver base:Nat} {kt e:Ty} {xs:List (El kt×El e)} {key:El kt} (k:V→Ups→Option R):b1o fx h o n ver base kt e xs key k=(b1o fx h o n ver base kt e xs key fun x u=>some (x,u)).bind fun p=>k p.1 p.2:=by
 unfold b1o;split
 ·rfl
 ·rw[b0n,b0n];refine b0e _ _ _ _ ?_;split
  ·exact b0e _ _ _ _ rfl
  ·rfl
theorem f1g (o:Oper) (c:Ty) (n v0 i:Nat) (k:V→Ups→Option R):v0w fx h o c n v0 i k=(v0w fx h o c n v0 i fun x u=>some (x,u)).bind fun p=>k p.1 p.2:=by
 unfold v0w;split
 ·split
  ·refine b0e _ _ _ _ ?_;refine b0e _ _ _ _ ?_;refine t0v _ _ _ _ fun y => ?_
   rw[b0n,b0n];split
   ·exact b0e _ _ _ _ rfl
   ·rfl
  ·rfl
 ·rfl
theorem j1b (c:Ty) (n v0 i:Nat) (x:V) (k:V→Ups→Option R):(f1h cx call h c n v0 i x fun u=>k .undef u)=(f1h cx call h c n v0 i x fun u=>some (V.undef,u)).bind fun p=>k p.1 p.2:=by
 unfold f1h;split
 ·split
  ·refine b0e _ _ _ _ ?_;refine b0e _ _ _ _ ?_;refine b0e _ _ _ _ ?_;refine b0e _ _ _ _ ?_;refine t0v _ _ _ _ fun y => ?_
   split
   ·exact b0e _ _ _ _ rfl
   ·rfl
  ·rfl
 ·rfl
theorem d1t (o:Oper) (k:V→Ups→Option R):evOp cx call fx o ρ h k=(evOp cx call fx o ρ h fun x u=>some (x,u)).bind fun p=>k p.1 p.2:=by
 have cell:∀(f:(Cell→Option R)→Option R) (g:(Cell→Option (V×Ups))→Option (V×Ups)) (m:Option Cell),(∀k,f k=m.bind k)→(∀k,g k=m.bind k) →
   f (fun c=>k (.v false [c]) [])=(g fun c=>some (.v false [c],[])).bind fun p=>k p.1 p.2:=by
  intro f g m hf hg;rw[hf,hg];cases m<;>rfl
 unfold evOp;dsimp only;split
 ·rfl
 ·rfl
 ·split
  ·rename_i b _;cases b<;>rfl
  ·rfl
 ·split
  ·rfl
  ·split
   ·split<;>rfl
   ·rfl
 ·split
  ·split<;>rfl
  ·rfl
 ·split
  ·split
   ·split<;>rfl
   ·split<;>rfl
   ·rfl
  ·rfl
 ·split
  ·split
   ·split
    ·split
     ·rfl
     split
     ·split<;>rfl
     ·rfl
    ·rfl
   ·rfl
  ·rfl
 ·split
  ·split
   ·exact f1g _ _ _ _ _ _
   ·rfl
  split
  ·exact via _ (z0k _ _ _) (z0k _ _ _) fun _=>rfl
  ·rfl
 ·split
  ·split
   ·exact j1b _ _ _ _ _ _
   ·rfl
  split
  ·split
   ·exact via _ (u0v _ _ _) (u0v _ _ _) fun _=>rfl
   ·rfl
  ·rfl
 ·split
  ·split<;>rfl
  ·rfl
 ·rename_i y _ _;cases p0a y with
  | true=>exact cell _ _ _ (fun k=>v0r _ _ _ k) (fun k=>v0r _ _ _ k)
  | false =>
   cases t0i y with
   | true=>exact cell _ _ _ (fun k=>v0t _ _ _ k) (fun k=>v0t _ _ _ k)
   | false=>exact cell _ _ _ (fun k=>d1z _ _ _ _ _ k) (fun k=>d1z _ _ _ _ _ k)
 ·exact cell _ _ _ (fun k=>g1w _ _ k) (fun k=>g1w _ _ k)
 ·split
  ·rfl
  ·rfl
  ·split
   ·cases u0g fx o with
    | true=>exact b0e _ _ _ _ rfl
    | false=>rfl
   ·rfl
  ·split
   ·exact via _ (n0m _ _ _) (n0m _ _ _) fun _=>rfl
   ·rfl
  ·rfl
 ·split<;>(split<;>rfl)
 ·split
  ·split
   ·split
    ·exact b0e _ _ _ _ rfl
    ·rfl
   ·rfl
  ·rfl
 ·split
  ·exact cell _ _ _ (fun k=>u0y _ _ _ _ k) (fun k=>u0y _ _ _ _ k)
  ·split
   ·exact cell _ _ _ (fun k=>v0c _ _ _ _ _ k) (fun k=>v0c _ _ _ _ _ k)
   ·rfl
  ·split
   ·exact e1p _ _ _ _ _ _ _ _ _ fun _ _=>rfl
   ·exact cell _ _ _ (fun k=>v0a _ _ _ _ _ _ k) (fun k=>v0a _ _ _ _ _ _ k)
  ·rfl
 ·split
  ·cases Nat.beq _ 0 with
   | true=>rfl
   | false=>simp only[cond_false];split<;>rfl
  ·rfl
 ·split
  ·split
   ·split<;>rfl
   ·rfl
  ·rfl
 ·split
  ·exact cell _ _ _ (fun k=>n0q _ _ _ k) (fun k=>n0q _ _ _ k)
  ·rfl
 ·split
  ·exact via _ (v0y _ _ _ _) (v0y _ _ _ _) fun _=>rfl
  ·rfl
 ·split
  ·split<;>rfl
  ·rfl
 ·split<;>rfl
 ·split
  ·split
   ·split
    ·split
     ·exact b0e _ _ _ _ (j1c _)
     ·rfl
    ·rfl
   ·split
    ·split
     ·exact b0e _ _ _ _ rfl
     ·rfl
    ·rfl
   ·rfl
  ·rfl
 ·split
  ·split
   ·split
    ·split
     ·refine b0e _ _ _ _ ?_;refine b0e _ _ _ _ ?_;refine t0v _ _ _ _ fun y => ?_
      split
      ·exact b0e _ _ _ _ rfl
      ·rfl
     ·rfl
    ·rfl
   ·rfl
  ·rfl
 ·split
  ·exact a1i _ _ _ _ _
  ·split
   ·exact extK_nat _ _ _
   ·exact k1r _ _ _ _
  ·split
   ·exact k1q _ _ _
   ·rfl
  ·rfl
 ·rfl
end
end Go.Flat
end
section
namespace Go.Flat
open Go.RowKit (Below)
section
variable {cx:Cx} {call:Oracle cx} {fx:Hints} {h:Heap} {ρ ρ':Operand→V} {R:Type}
theorem m0b {x:Option Operand} (h:∀y,x=some y→ρ y=ρ' y):x.map ρ=x.map ρ':=by
 cases x with
 | none=>rfl
 | some y=>simp[h y rfl]
theorem g1a (o:Oper) (k:V→Ups→Option R) (hρ:∀x∈o.op.operands.toList,ρ x=ρ' x):evOp cx call fx o ρ h k=evOp cx call fx o ρ' h k:=by
 unfold evOp;dsimp only;generalize hop:o.op=op at hρ;cases op<;>simp only[Op.operands] at hρ<;>(try dsimp only)
 case move x=>rw[hρ x (by simp)]
 case assign x=>rw[hρ x (by simp)]
 case pick c a b=>rw[hρ c (by simp),hρ a (by simp),hρ b (by simp)]
 case box t x=>rw[hρ x (by simp)]
 case build t ps =>
  have:(ps.toList.map fun x=>(x.1,ρ x.2))=ps.toList.map fun x=>(x.1,ρ' x.2):=List.map_congr_left fun x hx=>by rw[hρ x.2 (by simp;exact ⟨x.1,Array.mem_toList_iff.1 hx⟩)]
  rw[this]
 case buildSlice t n ps =>
  have:(ps.toList.map fun x=>(x.1,ρ x.2))=ps.toList.map fun x=>(x.1,ρ' x.2):=List.map_congr_left fun x hx=>by rw[hρ x.2 (by simp;exact ⟨x.1,Array.mem_toList_iff.1 hx⟩)]
  rw[this]
 case load t x=>rw[hρ x (by simp)]
 case store t a x=>rw[hρ a (by simp),hρ x (by simp)]
 case nilCheck x=>rw[hρ x (by simp)]
 case binOp op t x y yt=>rw[hρ x (by simp),hρ y (by simp)]
 case unOp op t x=>rw[hρ x (by simp)]
 case convert s d x=>rw[hρ x (by simp)]
 case makeFunc t first caps =>
  have:caps.toList.map ρ=caps.toList.map ρ':=List.map_congr_left fun x hx=>hρ x (by simp;exact .inr (Array.mem_toList_iff.1 hx))
  cases t<;>first | simp only[this] | rfl
 case makeSlice t l c=>rw[hρ l (by simp),hρ c (by simp)]
 case slice t x lo hi mx =>
  rw[hρ x (by simp),m0b (x:=lo) fun y hy=>hρ y (by simp[hy]),m0b (x:=hi) fun y hy=>hρ y (by simp[hy]),m0b (x:=mx) fun y hy=>hρ y (by simp[hy])]
 case fieldAddr s x f=>rw[hρ x (by simp)]
 case field s x f=>rw[hρ x (by simp)]
 case indexAddr t x i=>rw[hρ x (by simp),hρ i (by simp)]
 case index t x i=>rw[hρ x (by simp),hρ i (by simp)]
 case extract x i=>rw[hρ x (by simp)]
 case makeMap t r=>cases r<;>rfl
 case lookup t x i ok=>rw[hρ x (by simp),hρ i (by simp)]
 case mapUpdate t m i v=>rw[hρ m (by simp),hρ i (by simp),hρ v (by simp)]
 case call c =>
  simp only[Call.operands] at hρ;have h1:c.args.toList.map ρ=c.args.toList.map ρ':=List.map_congr_left fun x hx=>hρ x (by simp;exact .inr (Array.mem_toList_iff.1 hx))
  have h2:∀z,c.callee = .value z→ρ z=ρ' z:=fun z hz=>hρ z (by simp[hz])
  rw[h1];cases hcal:c.callee with
  | builtin b=>rfl
  | invoke r n=>rfl
  | value z=>cases z<;>simp only[h2 _ hcal]
end
theorem i0z (h:Heap) (ns:List Nat) (n:Nat):(restrict h ns)[n]? = (h[n]?).map fun e=>if hasN ns n=true then e else (0,none):=by
 unfold restrict;rw[List.getElem?_map,List.getElem?_zipIdx];cases h[n]? <;> simp
theorem i0h {h:Heap} {ns:List Nat} {n:Nat} (hn:n∈ns):(restrict h ns)[n]? = h[n]? := by
 rw[i0z,b0r.2 hn];cases h[n]? <;> simp
theorem q0t {h:Heap} {ns:List Nat} {n:Nat} (hn:n ∉ ns) {ver:Nat} {B:Blk}:(restrict h ns)[n]? ≠ some (ver,some B):=by
 rw[i0z];have:hasN ns n=false:=by
  cases hh:hasN ns n with
  | false=>rfl
  | true=>exact absurd (b0r.1 hh) hn
 rw[this];cases h[n]? <;> simp
theorem l0u (h:Heap) (ns:List Nat):(restrict h ns).length=h.length:=by simp[restrict]
section
variable {P:Program} {W W':World} {F F':Fz} {E E':EnvM} {h:Heap}
theorem t0y {ns:List Nat} {n b:Nat} (hat:atName (restrict h ns) E n b):n∈ns∧atName h E n b:=by
 obtain ⟨ver,B,L,h1,h2⟩:=hat;by_cases hn:n∈ns
 ·rw[i0h hn] at h1;exact ⟨hn,ver,B,L,h1,h2⟩
 ·exact absurd h1 (q0t hn)
theorem HR.restrict {ns:List Nat} (hr:HR P W F E (fun _=>True) h):HR P W F E (· ∈ ns) (Flat.restrict h ns):=by
 have back:∀n ver B,(Flat.restrict h ns)[n]? = some (ver,some B)→n∈ns∧h[n]? = some (ver,some B):=by
  intro n ver B hn;by_cases hm:n∈ns
  ·rw[i0h hm] at hn;exact ⟨hm,hn⟩
  ·exact absurd hn (q0t hm)
 refine ⟨fun n ver b hn hb => ?_,fun n ver b hb => ?_,fun n m vn vm bn bm L M x h1 h2 => ?_⟩
 ·rw[i0h hn] at hb;exact hr.top n ver b trivial hb
 ·obtain ⟨k1,k2⟩:=back n ver b hb;obtain ⟨_,L,k3,k4⟩:=hr.blk n ver b k2;exact ⟨k1,L,k3,k4⟩
 ·exact hr.inj n m vn vm bn bm L M x (back n vn bn h1).2 (back m vm bm h2).2
theorem OpPost.widen {ns:List Nat} {u:Ups} (hr:HR P W F E (fun _=>True) h) (hp:OpPost P W F E (· ∈ ns) (Flat.restrict h ns) W' F' E' u) (hu:∀n∈a0e u,n∈ns):OpPost P W F E (fun _=>True) h W' F' E' u:=by
 have inn:∀n:Nat,n∈ns→(a0u h u)[n]? = (a0u (Flat.restrict h ns) u)[n]? := by
  intro n hn;by_cases hm:n∈a0e u
  ·exact f0u u _ _ n hm (l0u h ns).symm
  ·rw[b0f u _ n hm,b0f u _ n hm,i0h hn]
 have out:∀n:Nat,n ∉ ns→(a0u h u)[n]? = h[n]? := fun n hn=>b0f u _ n (fun k=>hn (hu n k))
 have old:∀m b,atName (Flat.restrict h ns) E m b→atName h E m b:=fun m b k=>(t0y k).2
 have verle:∀n ver B,h[n]? = some (ver,some B)→ver≤E.top n:=fun n ver B hn=>Nat.le_of_eq (hr.top n ver _ trivial hn)
 have far:∀n ver B L b,n ∉ ns→h[n]? = some (ver,some B)→E.m n ver=some L→L.has b→b<W.heap.size∧(∀m∈a0e u,¬atName (Flat.restrict h ns) E m b):=by
  intro n ver B L b hn h1 h2 h3;refine ⟨hr.lt b ⟨n,ver,B,L,h1,h2,h3⟩,fun m hm hat => ?_⟩;have:=b0h hr (old m b hat) ⟨ver,B,L,h1,h2,h3⟩;subst this;exact hn (hu m hm)
 refine ⟨⟨fun n ver b _ hb => ?_,fun n ver B hb => ?_,fun n m vn vm bn bm L M x h1 h2 h3 h4 h5 h6 => ?_⟩,hp.later,hp.env,fun b hb hnot=>hp.frame b hb fun n hn k=>hnot n hn (old n b k),fun b hb => ?_,fun m b hm hat => ?_,hp.tops⟩
 ·by_cases hn:n∈ns
  ·rw[inn n hn] at hb;exact hp.hr.top n ver b hn hb
  ·rw[out n hn] at hb;rw[hp.tops n (fun k=>hn (hu n k))];exact hr.top n ver b trivial hb
 ·by_cases hn:n∈ns
  ·rw[inn n hn] at hb;obtain ⟨_,k⟩:=hp.hr.blk n ver B hb;exact ⟨trivial,k⟩
  ·rw[out n hn] at hb;obtain ⟨_,L,k1,k2⟩:=hr.blk n ver B hb;refine ⟨trivial,L,by rw[hp.env.m n ver (verle n ver B hb)];exact k1,k2.later hp.later hp.env fun b hLb => ?_⟩;obtain ⟨f1,f2⟩:=far n ver B L b hn hb k1 hLb;refine ⟨hp.frame b f1 f2,fun hnf hf => ?_⟩;rcases hp.fz b hf with q | ⟨m,hm,q⟩ | q
   ·exact hnf q
   ·exact f2 m hm q
   ·omega
 ·-- one in,one out
  have mixed:∀n m vn vm bn bm L M,n∈ns→m ∉ ns→(a0u h u)[n]? = some (vn,some bn)→(a0u h u)[m]? = some (vm,some bm)→E'.m n vn=some L→E'.m m vm=some M→L.has x→M.has x→False:=by
   intro n m vn vm bn bm L M hn hm h1 h2 h3 h4 h5 h6;rw[out m hm] at h2;rw[hp.env.m m vm (verle m vm bm h2)] at h4;obtain ⟨f1,f2⟩:=far m vm bm M x hm h2 h4 h6;rw[inn n hn] at h1;by_cases hnu:n∈a0e u
   ·rcases hp.own n x hnu ⟨vn,bn,L,h1,h3,h5⟩ with ⟨q,hq,k⟩ | k
    ·exact f2 q hq k
    ·omega
   ·rw[b0f u _ n hnu,i0h hn] at h1;rw[hp.env.m n vn (verle n vn bn h1)] at h3;have:=hr.inj n m vn vm bn bm L M x h1 h2 h3 h4 h5 h6;subst this;exact hm hn
  by_cases hn:n∈ns
  ·by_cases hm:m∈ns
   ·rw[inn n hn] at h1;rw[inn m hm] at h2;exact hp.hr.inj n m vn vm bn bm L M x h1 h2 h3 h4 h5 h6
   ·exact (mixed n m vn vm bn bm L M hn hm h1 h2 h3 h4 h5 h6).elim
  ·by_cases hm:m∈ns
   ·exact (mixed m n vm vn bm bn M L hm hn h2 h1 h4 h3 h6 h5).elim
   ·rw[out n hn] at h1;rw[out m hm] at h2;rw[hp.env.m n vn (verle n vn bn h1)] at h3;rw[hp.env.m m vm (verle m vm bm h2)] at h4;exact hr.inj n m vn vm bn bm L M x h1 h2 h3 h4 h5 h6
 ·rcases hp.fz b hb with q | ⟨m,hm,q⟩ | q
  ·exact .inl q
  ·exact .inr (.inl ⟨m,hm,old m b q⟩)
  ·exact .inr (.inr q)
 ·have:atName (a0u (Flat.restrict h ns) u) E' m b:=by
   obtain ⟨v,B,L,k1,k2⟩:=hat;exact ⟨v,B,L,by rw[←inn m (hu m hm)];exact k1,k2⟩
  rcases hp.own m b hm this with ⟨q,hq,k⟩ | k
  ·exact .inl ⟨q,hq,old q b k⟩
  ·exact .inr k
end
end Go.Flat
end
section
namespace Go.Flat
open Go.RowKit (Below)
theorem bit_eq (x i:Nat):Nat.beq (Nat.land (Nat.shiftRight x i) 1) 1=x.testBit i:=by
 have h:Nat.land (Nat.shiftRight x i) 1=(x >>> i) &&& 1:=rfl;rw[h];simp only[Nat.testBit,Nat.and_one_is_mod,Nat.one_and_eq_mod_two];rcases Nat.mod_two_eq_zero_or_one (x >>> i) with e | e<;>rw[e]<;>rfl
theorem t0b (bs:List Nat) (i j:Nat):ordered bs i j=(bs.getD j 0).testBit i:=bit_eq _ _
def asks (o:Oper) (i:Nat):Prop:=∃e∈o.after.toList,Region.binds .any e=true∧e.on=i
theorem k1y (acc:List Nat) (o:Oper) (i:Nat):(g1m acc o).testBit i=true↔∃m,asks o m∧(i=m∨(acc.getD m 0).testBit i=true):=by
 have key:∀(es:List Edge) (s:Nat),((es.foldl (fun s e=>match Region.binds .any e with | true=>Nat.lor s (Nat.lor (Nat.shiftLeft 1 e.on) (acc.getD e.on 0)) | false=>s) s).testBit i=true) ↔
   (s.testBit i=true∨∃e∈es,Region.binds .any e=true∧(i=e.on∨(acc.getD e.on 0).testBit i=true)):=by
  intro es;induction es with
  | nil=>intro s;simp
  | cons e r ih =>
   intro s;rw[List.foldl_cons,ih];cases hb:Region.binds .any e with
   | false=>simp[hb]
   | true =>
    have h1:(Nat.lor s (Nat.lor (Nat.shiftLeft 1 e.on) (acc.getD e.on 0))).testBit i=(s.testBit i||((1 <<< e.on).testBit i||(acc.getD e.on 0).testBit i)):=by
     show (s ||| ((1 <<< e.on) ||| (acc.getD e.on 0))).testBit i=_;rw[Nat.testBit_or,Nat.testBit_or]
    have h2:(1 <<< e.on).testBit i=decide (i=e.on):=by
     rw[Nat.shiftLeft_eq,Nat.one_mul,Nat.testBit_two_pow];rw[decide_eq_decide];exact eq_comm
    dsimp only;rw[h1,h2];simp only[Bool.or_eq_true,decide_eq_true_eq,List.mem_cons];constructor
    ·rintro ((h | h | h) | ⟨e',he',h⟩)
     ·exact .inl h
     ·exact .inr ⟨e,.inl rfl,hb,.inl h⟩
     ·exact .inr ⟨e,.inl rfl,hb,.inr h⟩
     ·exact .inr ⟨e',.inr he',h⟩
    ·rintro (h | ⟨e',rfl | he',h1,h2⟩)
     ·exact .inl (.inl h)
     ·rcases h2 with h2 | h2
      ·exact .inl (.inr (.inl h2))
      ·exact .inl (.inr (.inr h2))
     ·exact .inr ⟨e',he',h1,h2⟩
 unfold g1m;refine (key o.after.toList 0).trans ?_;simp only[Nat.zero_testBit,Bool.false_eq_true,false_or,asks];constructor
 ·rintro ⟨e,h1,h2,h3⟩;exact ⟨e.on,⟨e,h1,h2,rfl⟩,h3⟩
 ·rintro ⟨m,⟨e,h1,h2,rfl⟩,h3⟩;exact ⟨e,h1,h2,h3⟩
theorem t0w:∀(ops:List Oper) (acc:List Nat) (m:Nat),m<acc.length→(befs ops acc)[m]? = acc[m]? := by
 intro ops;induction ops with
 | nil=>intro acc m _;rfl
 | cons o r ih =>
  intro acc m hm;simp only[befs];rw[ih _ m (by simp;omega),List.getElem?_append_left hm]
theorem befs_get:∀(ops:List Oper) (acc:List Nat) (k:Nat) (o:Oper),ops[k]? = some o→∃acc',(befs ops acc)[acc.length+k]? = some (g1m acc' o)∧acc'.length=acc.length+k∧∀m,m<acc.length+k→acc'[m]? = (befs ops acc)[m]? := by
 intro ops;induction ops with
 | nil=>intro acc k o h;simp at h
 | cons o' r ih =>
  intro acc k o h;cases k with
  | zero =>
   simp at h;subst h;refine ⟨acc,?_,rfl,fun m hm => ?_⟩
   ·simp only[befs,Nat.add_zero];rw[t0w r _ _ (by simp),List.getElem?_append_right (Nat.le_refl _)];simp
   ·simp only[befs,Nat.add_zero] at hm ⊢;rw[t0w r _ m (by simp;omega),List.getElem?_append_left hm]
  | succ k =>
   simp only[List.getElem?_cons_succ] at h;obtain ⟨acc',h1,h2,h3⟩:=ih (acc++[g1m acc o']) k o h;simp only[befs];simp only[List.length_append,List.length_cons,List.length_nil,Nat.zero_add] at h1 h2 h3;refine ⟨acc',by rw[←h1];congr 1;omega,by omega,fun m hm=>h3 m (by omega)⟩
theorem t0x:∀(ops:List Oper) (b k:Nat) (o:Oper),g1n ops b=true→ops[k]? = some o→∀i,asks o i→i<b+k:=by
 intro ops;induction ops with
 | nil=>intro b k o _ h;simp at h
 | cons o' r ih =>
  intro b k o hb h i hi;simp only[g1n,Bool.and_eq_true] at hb;cases k with
  | zero =>
   simp at h;subst h;obtain ⟨e,h1,h2,rfl⟩:=hi;have:=hb.1;rw[List.all_eq_true] at this;have:=this e h1;rw[h2] at this
   simpa [Nat.blt_eq] using this
  | succ k =>
   have:=ih (b+1) k o hb.2 (by simpa using h) i hi;omega
theorem p0x {ops:List Oper} (hb:g1n ops 0=true) {D:Nat→Prop} (hD:∀j o,ops[j]? = some o→D j→∀m,asks o m→D m):∀j o,ops[j]? = some o→(∀m,asks o m→D m)→∀i,ordered (befs ops []) i j=true→i<j∧D i:=by
 intro j;induction j using Nat.strongRecOn with
 | _ j ih =>
  intro o ho hready i hi;obtain ⟨acc,h1,h2,h3⟩:=befs_get ops [] j o ho;simp only[List.length_nil,Nat.zero_add] at h1 h2 h3;rw[t0b] at hi;have hj:(befs ops []).getD j 0=g1m acc o:=by rw[List.getD_eq_getElem?_getD,h1];rfl
  rw[hj,k1y] at hi;obtain ⟨m,hm,hi⟩:=hi;have hmj:=t0x ops 0 j o hb ho m hm;rw[Nat.zero_add] at hmj;rcases hi with rfl | hi
  ·exact ⟨hmj,hready _ hm⟩
  ·have hacc:acc.getD m 0=(befs ops []).getD m 0:=by rw[List.getD_eq_getElem?_getD,List.getD_eq_getElem?_getD,h3 m hmj]
   rw[hacc,←t0b] at hi;have hlt:m<ops.length:=by
    have:j<ops.length:=by
     rcases Nat.lt_or_ge j ops.length with q | q
     ·exact q
     ·rw[List.getElem?_eq_none q] at ho;cases ho
    omega
   have hom:ops[m]? = some ops[m]:=List.getElem?_eq_getElem hlt;obtain ⟨q1,q2⟩:=ih m hmj _ hom (hD m _ hom (hready m hm)) i hi;exact ⟨by omega,q2⟩
theorem i0c:∀(ops:List Oper) (s b i:Nat),d0m ops s b=some i→b≤i∧∃o,ops[i-b]? = some o∧o.dst=some s:=by
 intro ops;induction ops with
 | nil=>intro s b i h;cases h
 | cons o r ih =>
  intro s b i h;simp only[d0m] at h;cases hd:o.dst with
  | none =>
   rw[hd] at h;obtain ⟨h1,o',h2,h3⟩:=ih s (b+1) i h;exact ⟨by omega,o',by rw[show i-b=(i-(b+1))+1 by omega];simpa using h2,h3⟩
  | some d =>
   rw[hd] at h;dsimp only at h;cases hb:Nat.beq d s with
   | true =>
    rw[hb] at h;simp at h;subst h;exact ⟨Nat.le_refl _,o,by simp,by rw[hd,Nat.eq_of_beq_eq_true hb]⟩
   | false =>
    rw[hb] at h;obtain ⟨h1,o',h2,h3⟩:=ih s (b+1) i h;exact ⟨by omega,o',by rw[show i-b=(i-(b+1))+1 by omega];simpa using h2,h3⟩
theorem g1r:∀(ops:List Oper) (s b j:Nat) (o:Oper),(ops.filterMap (·.dst)).Nodup→ops[j]? = some o→o.dst=some s→d0m ops s b=some (b+j):=by
 intro ops;induction ops with
 | nil=>intro s b j o _ h;simp at h
 | cons o' r ih =>
  intro s b j o hn h hd;simp only[d0m];cases j with
  | zero =>
   simp at h;subst h;rw[hd];simp
  | succ j =>
   simp only[List.getElem?_cons_succ] at h;have hmem:o∈r:=List.mem_of_getElem? h;cases hd':o'.dst with
   | none =>
    rw[List.filterMap_cons,hd'] at hn;dsimp only;rw[ih s (b+1) j o hn h hd];congr 1;omega
   | some d =>
    rw[List.filterMap_cons,hd',List.nodup_cons] at hn;have hne:d≠s:=fun e=>hn.1 (by rw[List.mem_filterMap];exact ⟨o,hmem,by rw[hd,e]⟩)
    have:Nat.beq d s=false:=by
     cases hb:Nat.beq d s with
     | false=>rfl
     | true=>exact absurd (Nat.eq_of_beq_eq_true hb) hne
    dsimp only;rw[this];simp only[cond_false];rw[ih s (b+1) j o hn.2 h hd];congr 1;omega
theorem look_all {ops:List Oper} {bs:List Nat}:∀(l:List Oper) (b k:Nat) (o:Oper),t0e ops bs l b=true→l[k]? = some o→∀s∈looks ops o,d1h ops bs (b+k) s=true:=by
 intro l;induction l with
 | nil=>intro b k o _ h;simp at h
 | cons o' r ih =>
  intro b k o hl h s hs;simp only[t0e,Bool.and_eq_true] at hl;cases k with
  | zero =>
   simp at h;subst h;have:=hl.1;rw[List.all_eq_true] at this;exact this s hs
  | succ k =>
   have:=ih (b+1) k o hl.2 (by simpa using h) s hs;rw[show b+(k+1)=b+1+k by omega];exact this
theorem look_ok {ops:List Oper} {bs:List Nat} {j s i:Nat} (h:d1h ops bs j s=true) (hw:d0m ops s 0=some i):i=j∨ordered bs i j=true∨ordered bs j i=true:=by
 unfold d1h at h;rw[hw] at h;simp only[Bool.or_eq_true] at h;rcases h with h | h
 ·exact .inl (Nat.eq_of_beq_eq_true h)
 ·exact .inr h
end Go.Flat
end
section
namespace Go.Flat
open Go.RowKit (Below)
abbrev Ent:=Option (V×Ups×List Nat×List Nat)
def Ent.val:Ent→V
 | none => .undef
 | some x=>x.1
def Ent.ups:Ent→Ups
 | none=>[]
 | some x=>x.2.1
def z0c (cx:Cx) (T:Nat→V):Operand→V
 | .tmp t=>T t
 | .const v=>d1w v
 | .global g=>match cx.glob g with | some x => .v false [.pin x.1 x.2 0] | none => .lost
 | .func f => .v false [.clo f .unit ()]
def m0i (ops:List Oper) (o:Oper) (T:Nat→V):Option Bool :=
 match o.guard with
 | none=>some true
 | some (j,want) =>
  match (ops[j]?).bind (·.dst) with
  | none=>none
  | some g =>
   match T g with
   | .v false [.val .bool b]=>some (bif b then want else !want)
   | .undef=>some false
   | _=>none
def putT (T:Nat→V) (dst:Option Nat) (x:V):Nat→V:=fun s=>if dst=some s then x else T s
section
variable {cx:Cx} {call:Oracle cx} {fx:Hints} {R:Type}
def Trace (cx:Cx) (call:Oracle cx) (fx:Hints) (all:List Oper):List Oper→(Nat→V)→Heap→List Ent→(Nat→V)→Heap→Prop
 | [],T,h,L,T',h'=>L=[]∧T'=T∧h'=h
 | o :: r, T, h, L, T', h' => ∃ e L', L = e :: L' ∧
     (match e with
      | none=>m0i all o T=some false
      | some (x,u,s1,s2)=>m0i all o T=some true∧evOp cx call fx o (z0c cx T) (restrict h (s1++s2)) (fun x u=>some (x,u))=some (x,u)∧(∀n∈a0e u,n∈s2∧n<h.length)) ∧
     Trace cx call fx all r (putT T o.dst e.val) (a0u h e.ups) L' T' h'
theorem guardK_T {ops:List Oper} {o:Oper} {st:St} {k:Bool→St→Option R} {r:R} (hk:w0b ops o st k=some r) :
  ∃run st',k run st'=some r∧m0i ops o (getT st.t)=some run∧st'.h=st.h∧getT st'.t=getT st.t:=by
 unfold w0b at hk;unfold m0i;cases hg:o.guard with
 | none=>rw[hg] at hk;exact ⟨true,st,hk,rfl,rfl,rfl⟩
 | some jw =>
  obtain ⟨j,want⟩:=jw;rw[hg] at hk;dsimp only at hk ⊢;cases hj:(ops[j]?).bind (·.dst) with
  | none=>rw[hj] at hk;cases hk
  | some g =>
   rw[hj] at hk;dsimp only at hk ⊢;split at hk
   ·rename_i b hb;have same:getT ((g,V.v false [Cell.val .bool b])::st.t)=getT st.t:=by
     funext s;simp only[getT];cases hbe:Nat.beq g s with
     | false=>rfl
     | true=>rw[←Nat.eq_of_beq_eq_true hbe,hb];rfl
    simp only[hb];cases b with
    | true=>exact ⟨want,_,hk,rfl,rfl,same⟩
    | false=>exact ⟨!want,_,hk,rfl,rfl,same⟩
   ·rename_i hb;simp only[hb];exact ⟨false,st,hk,rfl,rfl,rfl⟩
   ·cases hk
theorem opnd_T (st:St):opnd cx st=z0c cx (getT st.t):=by
 funext x;cases x<;>rfl
def trOf:List Ent→Nat→Tr→Tr
 | [],_,tr=>tr
 | none::L,i,tr=>trOf L (i+1) tr
 | some (_,_,s1,s2)::L,i,tr=>trOf L (i+1) (o0v i s1 s2 tr)
theorem e1i (o:Oper) (ρ:Operand→V) (h:Heap) {k:List Nat→List Nat→Option R} {r:R} (hk:g1x cx fx o ρ h k=some r):∃s1 s2,k s1 s2=some r:=by
 have force:∀(ns:List Nat) {kk:List Nat→Option R},q0y ns kk=some r→∃ms,kk ms=some r:=by
  intro ns;induction ns with
  | nil=>intro kk h;exact ⟨_,h⟩
  | cons n rest ih=>intro kk h;obtain ⟨ms,h⟩:=ih h;exact ⟨_,h⟩
 have close:∀(d:Nat) (ns:List Nat) {kk:List Nat→Option R},w0f h d ns kk=some r→∃ms,kk ms=some r:=by
  intro d;induction d with
  | zero=>intro ns kk hh;exact force ns hh
  | succ d ih =>
   intro ns kk hh;obtain ⟨ms,hh⟩:=force ns hh;obtain ⟨ms',hh⟩:=ih _ hh;exact ⟨_,hh⟩
 have wr:∀ns,w0f h 4 ns (fun ns=>q0y (fresh cx fx o) fun fr=>k [] (ns++fr))=some r→∃s1 s2,k s1 s2=some r:=by
  intro ns hh;obtain ⟨ms,hh⟩:=close 4 ns hh;obtain ⟨fr,hh⟩:=force _ hh;exact ⟨_,_,hh⟩
 have rd:∀ns,w0f h 4 ns (fun ns=>k ns [])=some r→∃s1 s2,k s1 s2=some r:=by
  intro ns hh;obtain ⟨ms,hh⟩:=close 4 ns hh;exact ⟨_,_,hh⟩
 unfold g1x at hk;dsimp only at hk;split at hk
 all_goals (try exact ⟨_,_,hk⟩)
 all_goals (try exact rd _ hk)
 all_goals (try exact wr _ hk)
 all_goals (try (obtain ⟨fr,hk⟩:=force _ hk;exact ⟨_,_,hk⟩))
 ·split at hk
  ·exact wr _ hk
  ·first | exact rd _ hk | (obtain ⟨ms,hk⟩:=close 0 _ hk;exact ⟨_,_,hk⟩)
 ·split at hk
  ·exact wr _ hk
  ·exact rd _ hk
 ·split at hk
  ·exact wr _ hk
  ·exact rd _ hk
 ·split at hk
  ·split at hk
   ·obtain ⟨ms,hk⟩:=close 4 _ hk;obtain ⟨fr,hk⟩:=force _ hk;exact ⟨_,_,hk⟩
   ·exact wr _ hk
  ·exact wr _ hk
theorem z0v (all:List Oper):∀(ops:List Oper) (i:Nat) (st:St) (tr:Tr) (k:St→Tr→Option R) (r:R),z0w cx call fx all ops i st tr k=some r →
  ∃L st',k st' (trOf L i tr)=some r∧Trace cx call fx all ops (getT st.t) st.h L (getT st'.t) st'.h:=by
 intro ops;induction ops with
 | nil=>intro i st tr k r hk;exact ⟨[],st,hk,rfl,rfl,rfl⟩
 | cons o rest ih =>
  intro i st tr k r hk;simp only[z0w] at hk;obtain ⟨run,st1,hk,hg,hh,ht⟩:=guardK_T hk;cases run with
  | true =>
   dsimp only at hk;obtain ⟨s1,s2,hk⟩:=e1i _ _ _ hk;rw[d1t] at hk;cases hev:evOp cx call fx o (opnd cx st1) (restrict st1.h (s1++s2)) (fun x u=>some (x,u)) with
   | none=>rw[hev] at hk;cases hk
   | some p =>
    obtain ⟨x,u⟩:=p;rw[hev] at hk;simp only[Option.bind_some] at hk;split at hk
    case h_2=>cases hk
    rename_i hall;obtain ⟨L,st',h1,h2⟩:=ih _ _ _ _ r hk;refine ⟨some (x,u,s1,s2)::L,st',h1,some (x,u,s1,s2),L,rfl,⟨hg,?_,fun n hn => ?_⟩,?_⟩
    ·rw[←ht,←hh,←opnd_T];exact hev
    ·simp only[a0e,List.mem_map] at hn;obtain ⟨y,hy,rfl⟩:=hn;rw[List.all_eq_true] at hall;have:=hall y hy;simp only[Bool.and_eq_true] at this;exact ⟨b0r.1 this.1,by rw[←hh];simpa [Nat.blt_eq] using this.2⟩
    ·have:putT (getT st.t) o.dst (Ent.val (some (x,u,s1,s2)))=getT (putV st1.t o.dst x):=by
      funext s;rw[m0v,ht];rfl
     rw[this,←hh];exact h2
  | false =>
   dsimp only at hk;obtain ⟨L,st',h1,h2⟩:=ih _ _ _ _ r hk;refine ⟨none::L,st',h1,none,L,rfl,hg,?_⟩;have:putT (getT st.t) o.dst (Ent.val none)=getT (putV st1.t o.dst .undef):=by
    funext s;rw[m0v,ht];rfl
   rw[this,←hh];exact h2
theorem w0q:∀(L:List Ent) (i:Nat) (tr:Tr),trOf L i tr=trOf L i []++tr:=by
 intro L;induction L with
 | nil=>intro i tr;rfl
 | cons e L ih =>
  intro i tr;cases e with
  | none=>exact ih _ _
  | some x =>
   obtain ⟨x,u,s1,s2⟩:=x;simp only[trOf];rw[ih,ih (i+1) (o0v i s1 s2 [])];rw[List.append_assoc];congr 1;unfold o0v;split<;>simp
theorem trOf_mem:∀(L:List Ent) (i j:Nat) (x:V) (u:Ups) (s1 s2:List Nat),L[j]? = some (some (x,u,s1,s2))→¬(s1=[]∧s2=[])→(i+j,s1,s2)∈trOf L i []:=by
 intro L;induction L with
 | nil=>intro i j x u s1 s2 h;simp at h
 | cons e L ih =>
  intro i j x u s1 s2 h hne;cases j with
  | zero =>
   simp at h;subst h;simp only[trOf];rw[w0q];have:o0v i s1 s2 []=[(i,s1,s2)]:=by
    unfold o0v;split
    ·exact absurd ⟨rfl,rfl⟩ hne
    ·rfl
   rw[this];simp
  | succ j =>
   simp only[List.getElem?_cons_succ] at h;have:=ih (i+1) j x u s1 s2 h hne;cases e with
   | none=>simp only[trOf];rw[show i+(j+1)=i+1+j by omega];exact this
   | some y =>
    obtain ⟨y,v,t1,t2⟩:=y;simp only[trOf];rw[w0q,show i+(j+1)=i+1+j by omega];exact List.mem_append_left _ this
theorem a1c (b:List Nat×List Nat):clash ([],[]) b=false∧clash b ([],[])=false:=by
 have h1:∀l:List Nat,meet [] l=false:=fun l=>rfl
 have h2:∀l:List Nat,meet l []=false:=by
  intro l;induction l with
  | nil=>rfl
  | cons n r ih=>simp[meet,hasN]
 simp[clash,h1,h2]
theorem l1e {bs:List Nat}:∀ {tr:Tr},q0o bs tr=true→∀(pre post:Tr) (x y:Nat×List Nat×List Nat),tr=pre++x::post→y∈post→clash x.2 y.2=true→ordered bs x.1 y.1=true:=by
 intro tr;induction tr with
 | nil=>intro _ pre post x y h;simp at h
 | cons z r ih =>
  intro h pre post x y he hy hc;obtain ⟨zi,zs⟩:=z;simp only[q0o,Bool.and_eq_true] at h;cases pre with
  | nil =>
   simp at he;obtain ⟨rfl,rfl⟩:=he;have:=h.1;rw[List.all_eq_true] at this;have:=this y hy;simp only[Bool.or_eq_true,Bool.not_eq_true'] at this;rcases this with q | q
   ·simp only at hc;rw[hc] at q;cases q
   ·exact q
  | cons w pre =>
   simp at he;exact ih h.2 pre post x y he.2 hy hc
theorem e1h:∀(L:List Ent) (b i j:Nat) (x y:V) (u v:Ups) (s1 s2 t1 t2:List Nat),i<j→L[i]? = some (some (x,u,s1,s2))→L[j]? = some (some (y,v,t1,t2))→¬(s1=[]∧s2=[])→¬(t1=[]∧t2=[]) →
  ∃pre post,(trOf L b []).reverse=pre++(b+i,s1,s2)::post∧(b+j,t1,t2)∈post:=by
 intro L;induction L with
 | nil=>intro b i j x y u v s1 s2 t1 t2 _ h;simp at h
 | cons e L ih =>
  intro b i j x y u v s1 s2 t1 t2 hij h1 h2 hs ht;obtain ⟨j,rfl⟩:∃j',j=j'+1:=⟨j-1,by omega⟩;simp only[List.getElem?_cons_succ] at h2;cases i with
  | zero =>
   simp at h1;subst h1;simp only[trOf];rw[w0q];have:o0v b s1 s2 []=[(b,s1,s2)]:=by
    unfold o0v;split
    ·exact absurd ⟨rfl,rfl⟩ hs
    ·rfl
   rw[this,List.reverse_append];refine ⟨[],(trOf L (b+1) []).reverse,rfl,?_⟩;rw[List.mem_reverse,show b+(j+1)=b+1+j by omega];exact trOf_mem L (b+1) j y v t1 t2 h2 ht
  | succ i =>
   simp only[List.getElem?_cons_succ] at h1;obtain ⟨pre,post,k1,k2⟩:=ih (b+1) i j x y u v s1 s2 t1 t2 (by omega) h1 h2 hs ht;have e1:b+(i+1)=b+1+i:=by omega
   have e2:b+(j+1)=b+1+j:=by omega
   rw[e1,e2];cases e with
   | none=>exact ⟨pre,post,k1,k2⟩
   | some z =>
    obtain ⟨z,w,r1,r2⟩:=z;simp only[trOf];rw[w0q,List.reverse_append,k1];exact ⟨(o0v b r1 r2 []).reverse++pre,post,by rw[List.append_assoc],k2⟩
theorem y0h {bs:List Nat} {L:List Ent} (h:q0o bs (trOf L 0 []).reverse=true) {i j:Nat} (hij:i<j) {x y:V} {u v:Ups} {s1 s2 t1 t2:List Nat} (h1:L[i]? = some (some (x,u,s1,s2))) (h2:L[j]? = some (some (y,v,t1,t2)))
  (hc:clash (s1,s2) (t1,t2)=true):ordered bs i j=true:=by
 by_cases hs:s1=[]∧s2=[]
 ·obtain ⟨rfl,rfl⟩:=hs;rw[(a1c _).1] at hc;cases hc
 by_cases ht:t1=[]∧t2=[]
 ·obtain ⟨rfl,rfl⟩:=ht;rw[(a1c _).2] at hc;cases hc
 obtain ⟨pre,post,k1,k2⟩:=e1h L 0 i j x y u v s1 s2 t1 t2 hij h1 h2 hs ht;simp only[Nat.zero_add] at k1 k2;exact l1e h pre post _ _ k1 k2 hc
theorem meet_iff {a b:List Nat}:meet a b=true↔∃n,n∈a∧n∈b:=by
 simp only[meet,List.any_eq_true,b0r]
theorem t0r {s1 s2 t1 t2:List Nat}:clash (s1,s2) (t1,t2)=true↔(∃n,n∈s2∧n∈t1++t2)∨∃n,n∈t2∧n∈s1:=by
 simp only[clash,Bool.or_eq_true,meet_iff]
end
end Go.Flat
end
section
namespace Go.Flat
open Go.RowKit (Below)
def ent (L:List Ent) (i:Nat):Ent:=(L[i]?).getD none
def TD (ops:List Oper) (L:List Ent) (T0:Nat→V) (D:Nat→Bool):Nat→V:=fun s =>
 match d0m ops s 0 with
 | some i=>if D i=true then (ent L i).val else T0 s
 | none=>T0 s
def HD (L:List Ent) (h0:Heap) (D:Nat→Bool):Nat→Heap
 | 0=>h0
 | n+1=>if D n=true then a0u (HD L h0 D n) (ent L n).ups else HD L h0 D n
theorem k0g (L:List Ent) (h0:Heap) (D:Nat→Bool):∀n,(HD L h0 D n).length=h0.length:=by
 intro n;induction n with
 | zero=>rfl
 | succ n ih=>simp only[HD];split<;>simp[a0k,ih]
theorem HD_get {L:List Ent} {h0:Heap} {D D':Nat→Bool} {m:Nat}:∀n,(∀i,i<n→m∈a0e (ent L i).ups→D i=D' i)→(HD L h0 D n)[m]? = (HD L h0 D' n)[m]? := by
 intro n;induction n with
 | zero=>intro _;rfl
 | succ n ih =>
  intro h;have ih:=ih fun i hi=>h i (by omega)
  simp only[HD];by_cases hm:m∈a0e (ent L n).ups
  ·have e:=h n (by omega) hm;rw[←e];split
   ·exact f0u _ _ _ m hm (by rw[k0g,k0g])
   ·exact ih
  ·have k:∀(E:Nat→Bool),(if E n=true then a0u (HD L h0 E n) (ent L n).ups else HD L h0 E n)[m]? = (HD L h0 E n)[m]? := by
    intro E;split
    ·exact b0f _ _ m hm
    ·rfl
   rw[k D,k D'];exact ih
theorem y0i {L:List Ent} {h0:Heap} {D D':Nat→Bool}:∀n,(∀i,i<n→D i=D' i)→HD L h0 D n=HD L h0 D' n:=by
 intro n h;apply List.ext_getElem?;intro m;exact HD_get n fun i hi _=>h i hi
theorem a1t (h:Heap) (u v:Ups) (hd:∀n,n∈a0e u→n ∉ a0e v):a0u (a0u h u) v=a0u (a0u h v) u:=by
 apply List.ext_getElem?;intro n;by_cases h1:n∈a0e u
 ·rw[b0f v _ n (hd n h1)];exact f0u u _ _ n h1 (by rw[a0k])
 ·rw[b0f u (a0u h v) n h1];by_cases h2:n∈a0e v
  ·exact f0u v _ _ n h2 (by rw[a0k])
  ·rw[b0f v _ n h2,b0f v _ n h2,b0f u _ n h1]
def addD (D:Nat→Bool) (j:Nat):Nat→Bool:=fun i=>D i||Nat.beq i j
theorem u0a (D:Nat→Bool) (j:Nat):addD D j j=true:=by simp[addD]
theorem k0f (D:Nat→Bool) (j i:Nat) (h:i≠j):addD D j i=D i:=by
 have:Nat.beq i j=false:=by
  cases hb:Nat.beq i j with
  | false=>rfl
  | true=>exact absurd (Nat.eq_of_beq_eq_true hb) h
 simp[addD,this]
theorem HD_put {L:List Ent} {h0:Heap} {D:Nat→Bool} {j:Nat} (hj:D j=false):∀n,j<n→(∀i,j<i→i<n→D i=true→∀m,m∈a0e (ent L j).ups→m ∉ a0e (ent L i).ups) →
  HD L h0 (addD D j) n=a0u (HD L h0 D n) (ent L j).ups:=by
 intro n;induction n with
 | zero=>intro h;omega
 | succ n ih =>
  intro hlt hd;simp only[HD];by_cases e:j=n
  ·subst e;rw[u0a,if_pos rfl,hj,if_neg (by simp),y0i (D:=addD D j) (D':=D) j fun i hi=>k0f D j i (by omega)]
  ·have hjn:j<n:=by omega
   rw[k0f D j n (fun q=>e q.symm),ih hjn fun i h1 h2=>hd i h1 (by omega)];split
   ·rename_i hDn;exact a1t _ _ _ (hd n hjn (by omega) hDn)
   ·rfl
theorem TD_put {ops:List Oper} {L:List Ent} {T0:Nat→V} {D:Nat→Bool} {j:Nat} {o:Oper} (hn:(ops.filterMap (·.dst)).Nodup) (ho:ops[j]? = some o) (hj:D j=false) :
  TD ops L T0 (addD D j)=putT (TD ops L T0 D) o.dst (ent L j).val:=by
 funext s;unfold putT;by_cases hd:o.dst=some s
 ·have hw:=g1r ops s 0 j o hn ho hd;rw[Nat.zero_add] at hw;rw[if_pos hd];simp only[TD,hw,u0a,if_true]
 ·rw[if_neg hd];unfold TD;cases hw:d0m ops s 0 with
  | none=>rfl
  | some i =>
   obtain ⟨_,o',k1,k2⟩:=i0c ops s 0 i hw;rw[Nat.sub_zero] at k1;have hne:i≠j:=fun e=>by
    subst e;rw[ho] at k1;injection k1 with k1;subst k1;exact hd k2
   simp only[k0f D j i hne]
def upto (j:Nat):Nat→Bool:=fun i=>Nat.blt i j
theorem upto_succ (j:Nat):upto (j+1)=addD (upto j) j:=by
 funext i;simp only[upto,addD];rw[Bool.eq_iff_iff];simp[Nat.blt_eq,Nat.beq_eq];omega
theorem o0j (j:Nat):upto j j=false:=by
 cases h:upto j j with
 | false=>rfl
 | true=>simp[upto,Nat.blt_eq] at h
theorem g0i {j i:Nat}:upto j i=true↔i<j:=by simp[upto,Nat.blt_eq]
section
variable {cx:Cx} {call:Oracle cx} {fx:Hints} {R:Type}
def l1n (cx:Cx) (call:Oracle cx) (fx:Hints) (all:List Oper) (T0:Nat→V) (h0:Heap) (L:List Ent) (j:Nat) (o:Oper):Prop :=
 match ent L j with
 | none=>m0i all o (TD all L T0 (upto j))=some false
 | some (x,u,s1,s2)=>m0i all o (TD all L T0 (upto j))=some true∧evOp cx call fx o (z0c cx (TD all L T0 (upto j))) (restrict (HD L h0 (upto j) all.length) (s1++s2)) (fun x u=>some (x,u))=some (x,u) ∧
   (∀n∈a0e u,n∈s2∧n<h0.length)
theorem e1g {all:List Oper} {T0:Nat→V} {h0:Heap} {L:List Ent} {T':Nat→V} {h':Heap} (hn:(all.filterMap (·.dst)).Nodup):∀(r:List Oper) (j:Nat) (L':List Ent) (T:Nat→V) (h:Heap),
  all.drop j=r→L.drop j=L'→T=TD all L T0 (upto j)→h=HD L h0 (upto j) all.length→Trace cx call fx all r T h L' T' h' →
   (∀i o,j≤i→all[i]? = some o→l1n cx call fx all T0 h0 L i o)∧T'=TD all L T0 (upto all.length)∧h'=HD L h0 (upto all.length) all.length:=by
 intro r;induction r with
 | nil =>
  intro j L' T h hr hL hT hh htr;obtain ⟨_,rfl,rfl⟩:=htr;have hlen:all.length≤j:=by
   have:=congrArg List.length hr;simp at this;omega
  have e:∀i,i<all.length→upto j i=upto all.length i:=by
   intro i hi;rw[g0i.2 hi,g0i.2 (by omega)]
  refine ⟨fun i o hi ho => ?_,?_,?_⟩
  ·rw[List.getElem?_eq_none (by omega)] at ho;cases ho
  ·rw[hT];funext s;unfold TD;cases hw:d0m all s 0 with
   | none=>rfl
   | some i =>
    obtain ⟨_,o',k1,_⟩:=i0c all s 0 i hw;rw[Nat.sub_zero] at k1;have hi:i<all.length:=by
     rcases Nat.lt_or_ge i all.length with q | q
     ·exact q
     ·rw[List.getElem?_eq_none q] at k1;cases k1
    simp only[e i hi]
  ·rw[hh];exact y0i _ e
 | cons o r ih =>
  intro j L' T h hr hL hT hh htr;obtain ⟨e,L2,rfl,he,htr⟩:=htr;have ho:all[j]? = some o:=by
   have:(all.drop j)[0]? = some o:=by rw[hr];rfl
   rw[List.getElem?_drop] at this
   simpa using this
  have hjl:j<all.length:=by
   rcases Nat.lt_or_ge j all.length with q | q
   ·exact q
   ·rw[List.getElem?_eq_none q] at ho;cases ho
  have hent:ent L j=e:=by
   have:(L.drop j)[0]? = some e:=by rw[hL];rfl
   rw[List.getElem?_drop] at this;unfold ent;rw[show j=j+0 from rfl,this];rfl
  have hr':all.drop (j+1)=r:=by rw[←List.tail_drop,hr];rfl
  have hL':L.drop (j+1)=L2:=by rw[←List.tail_drop,hL];rfl
  obtain ⟨k1,k2,k3⟩:=ih (j+1) L2 _ _ hr' hL'
   (by rw[hT,upto_succ,TD_put hn ho (o0j j),hent])
   (by rw[hh,upto_succ,HD_put (o0j j) all.length hjl (fun i h1 _ h3=>by rw[g0i] at h3;omega),hent]) htr
  refine ⟨fun i o' hi ho' => ?_,k2,k3⟩;by_cases hij:i=j
  ·subst hij;rw[ho] at ho';injection ho' with ho';subst ho';unfold l1n;rw[hent];cases e with
   | none=>rw[←hT];exact he
   | some x =>
    obtain ⟨x,u,s1,s2⟩:=x;rw[←hT,←hh];exact ⟨he.1,he.2.1,fun n hn=>⟨(he.2.2 n hn).1,by have:=(he.2.2 n hn).2;rw[hh,k0g] at this;exact this⟩⟩
  ·exact k1 i o' (by omega) ho'
end
section
variable {cx:Cx} {call:Oracle cx} {fx:Hints} {W0 W W':World} {F0 F F':Fz} {O0:List Nat} {E E':EnvM} {h:Heap} {a:Act} {nt:Slots} {st:St}
theorem p0c {ops:List Oper} {o:Oper} {T:Nat→V} {run:Bool} (ht:∀s,RdV cx.P W F E (T s) (a.tmps.getD s undef)) (hg:m0i ops o T=some run):Region.wanted o (yielded ops.toArray a.tmps)=run:=by
 unfold m0i at hg;cases hgu:o.guard with
 | none=>rw[hgu] at hg;injection hg with hg;subst hg;simp[Region.wanted,hgu]
 | some jw =>
  obtain ⟨j,want⟩:=jw;rw[hgu] at hg;dsimp only at hg;cases hj:(ops[j]?).bind (·.dst) with
  | none=>rw[hj] at hg;cases hg
  | some g =>
   rw[hj] at hg;dsimp only at hg;have hj':((ops.toArray)[j]?).bind (·.dst)=some g:=by simpa using hj
   have hv:=ht g;split at hg
   ·rename_i b hb;injection hg with hg;rw[hb] at hv;have hv:=u0t (n0y hv);simp only[Region.wanted,hgu,yielded,hj',Option.bind_some,hv];subst hg;cases b<;>cases want<;>rfl
   ·rename_i hb;injection hg with hg;subst hg;rw[hb] at hv;have hv:a.tmps.getD g undef=undef:=hv;simp only[Region.wanted,hgu,yielded,hj',Option.bind_some];rw[Array.getD_eq_getD_getElem?] at hv;cases hgt:a.tmps[g]? with
    | none=>cases want<;>rfl
    | some v =>
     rw[hgt] at hv;simp at hv;subst hv;cases want<;>rfl
   ·cases hg
def RelT (cx:Cx) (W0:World) (F0:Fz) (O0:List Nat) (nt:Slots) (T:Nat→V) (h:Heap) (a:Act) (W:World) (F:Fz) (E:EnvM):Prop :=
 ∃st:St,st.h=h∧getT st.t=T∧StRel cx W0 F0 O0 nt st a W F E
theorem StRel.drew (hs:StRel cx W0 F0 O0 nt st a W F E) {st':St} (h1:st'.h=st.h) (h2:getT st'.t=getT st.t):StRel cx W0 F0 O0 nt st' a { W with drawn:=W.drawn+1 } F E:=by
 have hl:Later W F { W with drawn:=W.drawn+1 } F:=⟨rfl,rfl,rfl,Nat.le_refl _,fun _ _=>rfl,fun _ hb=>hb⟩;refine ⟨by rw[h1];exact hs.hr.world hl (fun b _=>⟨rfl,fun h=>h⟩),hs.hF,fun s=>by rw[h2];exact (hs.t s).later hl (EnvLe.refl E),hs.later.trans hl,hs.frame,by rw[h1];exact hs.own,hs.fz,hs.size,hs.keep,by rw[h1];exact ⟨hs.defers.1,hs.defers.2.turn fun D _ _ h1 h2 _=>⟨rfl,h1,h2⟩⟩,hs.env⟩
def x0h (s2:List Nat) (len:Nat) (u:Ups):Bool:=u.all fun y=>hasN s2 y.1&&Nat.blt y.1 len
theorem t0d {s2:List Nat} {len:Nat} {u:Ups}:x0h s2 len u=true↔∀n∈a0e u,n∈s2∧n<len:=by
 unfold x0h;rw[List.all_eq_true];constructor
 ·intro h n hn;simp only[a0e,List.mem_map] at hn;obtain ⟨y,hy,rfl⟩:=hn;have:=h y hy;simp only[Bool.and_eq_true] at this;exact ⟨b0r.1 this.1,by simpa [Nat.blt_eq] using this.2⟩
 ·intro h y hy;obtain ⟨k1,k2⟩:=h y.1 (by simp only[a0e,List.mem_map];exact ⟨y,hy,rfl⟩);simp only[Bool.and_eq_true];exact ⟨b0r.2 k1,by simpa [Nat.blt_eq] using k2⟩
structure Open (cx:Cx) (call:Oracle cx) (fx:Hints) (ops:List Oper) (T0:Nat→V) (h0:Heap) (L:List Ent):Prop where
 nodup:(ops.filterMap (·.dst)).Nodup
 look:t0e ops (befs ops []) ops 0=true
 back:g1n ops 0=true
 ents:∀i o,ops[i]? = some o→l1n cx call fx ops T0 h0 L i o
 apart:q0o (befs ops []) (trOf L 0 []).reverse=true
theorem c1f {rd:Option Nat} {ops:List Oper} {T0:Nat→V} {h0:Heap} {L:List Ent} {Q:Exit→Act→World→Prop} (hc:CallSound cx call W0 F0) (tab:e0d cx) (hfn:FnOk cx call) (ho:Open cx call fx ops T0 h0 L) (hd:z0y nt.nt nt.K ops=true)
  (hQ:∀a W F E,RelT cx W0 F0 O0 nt (TD ops L T0 (upto ops.length)) (HD L h0 (upto ops.length) ops.length) a W F E→Q .normal a W) :
  ∀(fuel:Nat) (listed:Array Bool) (a:Act) (W:World) (F:Fz) (E:EnvM),listed.size=ops.length→((List.range ops.length).filter fun i => !listed.getD i true).length≤fuel →
   (∀j o,ops[j]? = some o→listed.getD j true=true→∀m,asks o m→listed.getD m true=true) →
   RelT cx W0 F0 O0 nt (TD ops L T0 (fun i=>listed.getD i true)) (HD L h0 (fun i=>listed.getD i true) ops.length) a W F E→wpAnyIn (Rnd rd) 0 cx.P .any ops.toArray Q fuel listed a W:=by
 have done:∀(listed:Array Bool) (a:Act) (W:World) (F:Fz) (E:EnvM),listed.size=ops.length→(∀i,i<ops.length→listed.getD i true=true) →
   RelT cx W0 F0 O0 nt (TD ops L T0 (fun i=>listed.getD i true)) (HD L h0 (fun i=>listed.getD i true) ops.length) a W F E→Q .normal a W:=by
  intro listed a W F E _ hall hrel;have e1:HD L h0 (fun i=>listed.getD i true) ops.length=HD L h0 (upto ops.length) ops.length:=y0i _ fun i hi=>by rw[hall i hi,g0i.2 hi]
  have e2:TD ops L T0 (fun i=>listed.getD i true)=TD ops L T0 (upto ops.length):=by
   funext s;unfold TD;cases hw:d0m ops s 0 with
   | none=>rfl
   | some i =>
    obtain ⟨_,o',k1,_⟩:=i0c ops s 0 i hw;rw[Nat.sub_zero] at k1;have hi:i<ops.length:=by
     rcases Nat.lt_or_ge i ops.length with q | q
     ·exact q
     ·rw[List.getElem?_eq_none q] at k1;cases k1
    simp only[hall i hi,g0i.2 hi]
  rw[e1,e2] at hrel;exact hQ a W F E hrel
 have readyNil:∀(listed:Array Bool),listed.size=ops.length→Region.ready .any ops.toArray listed=[]→∀i,i<ops.length→listed.getD i true=true:=by
  intro listed hsz hr i;induction i using Nat.strongRecOn with
  | _ i ih =>
   intro hi;cases hl:listed.getD i true with
   | true=>rfl
   | false =>
    exfalso;have hmem:i∈Region.ready .any ops.toArray listed:=by
     rw[mem_ready];have hoi:ops[i]? = some ops[i]:=List.getElem?_eq_getElem hi;refine ⟨hl,ops[i],by simp[hi],fun e he hbind => ?_⟩;have hlt:=t0x ops 0 i _ ho.back hoi e.on ⟨e,Array.mem_toList_iff.2 he,hbind,rfl⟩;have:=ih e.on (by omega) (by omega);have hes:e.on<listed.size:=by omega
     simp only[Array.getD_eq_getD_getElem?,Array.getElem?_eq_getElem hes,Option.getD_some] at this ⊢;exact this
    rw[hr] at hmem;cases hmem
 intro fuel;induction fuel with
 | zero =>
  intro listed a W F E hsz hcnt hclosed hrel;have hall:∀i,i<ops.length→listed.getD i true=true:=by
   intro i hi;cases hl:listed.getD i true with
   | true=>rfl
   | false =>
    have:i∈(List.range ops.length).filter fun i => !listed.getD i true:=by
     rw[List.mem_filter,List.mem_range,hl];exact ⟨hi,rfl⟩
    have h0:((List.range ops.length).filter fun i => !listed.getD i true)=[]:=List.eq_nil_of_length_eq_zero (by omega);rw[h0] at this;cases this
  refine ⟨?_,done listed a W F E hsz hall hrel⟩;cases hr:Region.ready .any ops.toArray listed with
  | nil=>rfl
  | cons i r =>
   exfalso;have hmem:i∈Region.ready .any ops.toArray listed:=by rw[hr];simp
   rw[mem_ready] at hmem;obtain ⟨h2,o,h1,_⟩:=hmem;have h1:i<ops.length:=by
    have:ops[i]? = some o:=by simpa using h1
    rcases Nat.lt_or_ge i ops.length with q | q
    ·exact q
    ·rw[List.getElem?_eq_none q] at this;cases this
   rw[hall i h1] at h2;cases h2
 | succ fuel ih =>
  intro listed a W F E hsz hcnt hclosed hrel;refine ⟨fun hr=>done listed a W F E hsz (readyNil listed hsz hr) hrel,fun j hj => ?_⟩;rw[mem_ready] at hj;obtain ⟨hnl,o,hoj,hready⟩:=hj;have hoj:ops[j]? = some o:=by simpa using hoj
  have hjl:j<ops.length:=by
   rcases Nat.lt_or_ge j ops.length with q | q
   ·exact q
   ·rw[List.getElem?_eq_none q] at hoj;cases hoj
  generalize hDe:(fun i=>listed.getD i true)=D at hrel;have hDi:∀i,listed.getD i true=D i:=fun i=>by rw[←hDe]
  have hDj:D j=false:=by rw[←hDi];exact hnl
  have hreadyD:∀m,asks o m→D m=true:=by
   rintro m ⟨e,he,hbind,rfl⟩;have:=hready e (Array.mem_toList_iff.1 he) hbind;have hlt:=t0x ops 0 j o ho.back hoj e.on ⟨e,he,hbind,rfl⟩;have hes:e.on<listed.size:=by omega
   rw[←hDi];simp only[Array.getD_eq_getD_getElem?,Array.getElem?_eq_getElem hes,Option.getD_some] at this ⊢;exact this
  have hclosedD:∀j o,ops[j]? = some o→D j=true→∀m,asks o m→D m=true:=fun j o h1 h2 m h3=>by
   rw[←hDi] at h2 ⊢;exact hclosed j o h1 h2 m h3
  have before:∀i,ordered (befs ops []) i j=true→i<j∧D i=true:=p0x ho.back (D:=fun i=>D i=true) hclosedD j o hoj hreadyD;have behind:∀i,i<ops.length→ordered (befs ops []) j i=true→j<i∧D i=false:=by
   intro i hi hord;have hoi:ops[i]? = some ops[i]:=List.getElem?_eq_getElem hi;have h1:=(p0x ho.back (D:=fun _=>True) (fun _ _ _ _ _ _=>trivial) i _ hoi (fun _ _=>trivial) j hord).1;refine ⟨h1,?_⟩;cases hDi':D i with
   | false=>rfl
   | true =>
    have:=(p0x ho.back (D:=fun i=>D i=true) hclosedD i _ hoi (hclosedD i _ hoi hDi') j hord).2;rw[hDj] at this;cases this
  have agree:∀s∈looks ops o,TD ops L T0 D s=TD ops L T0 (upto j) s:=by
   intro s hs;have hlk:=look_all ops 0 j o ho.look hoj s hs;rw[Nat.zero_add] at hlk;unfold TD;cases hw:d0m ops s 0 with
   | none=>rfl
   | some i =>
    obtain ⟨_,o',k1,_⟩:=i0c ops s 0 i hw;rw[Nat.sub_zero] at k1;have hi:i<ops.length:=by
     rcases Nat.lt_or_ge i ops.length with q | q
     ·exact q
     ·rw[List.getElem?_eq_none q] at k1;cases k1
    rcases look_ok hlk hw with rfl | h1 | h1
    ·simp only[hDj,o0j]
    ·obtain ⟨q1,q2⟩:=before i h1;simp only[q2,g0i.2 q1]
    ·obtain ⟨q1,q2⟩:=behind i hi h1;have:upto j i=false:=by
      cases hu:upto j i with
      | false=>rfl
      | true=>rw[g0i] at hu;omega
     simp only[q2,this]
  have hents:=ho.ents j o hoj;have entLt:∀i x,ent L i=some x→L[i]? = some (some x):=by
   intro i x hx;unfold ent at hx;cases hLi:L[i]? with
   | none=>rw[hLi] at hx;cases hx
   | some e=>rw[hLi] at hx;simp at hx;rw[hx]
  have upsIn:∀i,i<ops.length→∀m,m∈a0e (ent L i).ups→∃x u s1 s2,ent L i=some (x,u,s1,s2)∧m∈s2:=by
   intro i hi m hm;have he:=ho.ents i _ (List.getElem?_eq_getElem hi);unfold l1n at he;cases hx:ent L i with
   | none=>rw[hx] at hm;cases hm
   | some x =>
    obtain ⟨x,u,s1,s2⟩:=x;rw[hx] at he hm;exact ⟨x,u,s1,s2,rfl,(he.2.2 m hm).1⟩
  obtain ⟨st,hst1,hst2,hs⟩:=hrel;have hdst:∀d,o.dst=some d→nt.may d:=fun d e=>k1g (List.all_eq_true.1 hd o (List.mem_of_getElem? hoj)) d e
  have hsize':(listed.setIfInBounds j true).size=ops.length:=by simp[hsz]
  have hDnew:(fun i=>(listed.setIfInBounds j true).getD i true)=addD D j:=by
   funext i;by_cases e:i=j
   ·subst e;rw[u0a];have:i<listed.size:=by omega
    simp[Array.getD_eq_getD_getElem?,this]
   ·rw[k0f D j i e,←hDi];exact getD_set_ne true (fun q=>e q.symm)
  have hcnt':((List.range ops.length).filter fun i => !(listed.setIfInBounds j true).getD i true).length≤fuel:=by
   have e1:((List.range ops.length).filter fun i => !(listed.setIfInBounds j true).getD i true)=((List.range ops.length).filter fun i => !listed.getD i true).filter fun i => !Nat.beq i j:=by
    rw[List.filter_filter];apply List.filter_congr;intro i _;have:(listed.setIfInBounds j true).getD i true=addD D j i:=congrFun hDnew i;rw[this,hDi];simp only[addD,Bool.not_or];rw[Bool.and_comm]
   rw[e1];have hlt:(((List.range ops.length).filter fun i => !listed.getD i true).filter fun i => !Nat.beq i j).length<((List.range ops.length).filter fun i => !listed.getD i true).length:=by
    rw[List.length_filter_lt_length_iff_exists];exact ⟨j,by rw[List.mem_filter,List.mem_range,hnl];exact ⟨hjl,rfl⟩,by simp⟩
   omega
  have hclosed':∀i o',ops[i]? = some o'→(listed.setIfInBounds j true).getD i true=true→∀m,asks o' m→(listed.setIfInBounds j true).getD m true=true:=by
   intro i o' h1 h2 m h3;have g:∀i,(listed.setIfInBounds j true).getD i true=addD D j i:=fun i=>congrFun hDnew i
   rw[g] at h2 ⊢;by_cases e:i=j
   ·subst e;rw[hoj] at h1;injection h1 with h1;subst h1;simp[addD,hreadyD m h3]
   ·rw[k0f D j i e] at h2;simp[addD,hclosedD i o' h1 h2 m h3]
  have next:∀(a':Act) (W':World) (F':Fz) (E':EnvM),RelT cx W0 F0 O0 nt (putT (TD ops L T0 D) o.dst (ent L j).val) (a0u (HD L h0 D ops.length) (ent L j).ups) a' W' F' E' →
    wpAnyIn (Rnd rd) 0 cx.P .any ops.toArray Q fuel (listed.setIfInBounds j true) a' W':=by
   intro a' W' F' E' hr;refine ih _ a' W' F' E' hsize' hcnt' hclosed' ?_;rw[hDnew,TD_put ho.nodup hoj hDj,HD_put hDj ops.length hjl ?_]
   ·exact hr
   ·intro i h1 h2 h3 m hm hm';obtain ⟨x,u,s1,s2,e1,m1⟩:=upsIn j hjl m hm;obtain ⟨y,v,t1,t2,e2,m2⟩:=upsIn i h2 m hm';have hcl:clash (s1,s2) (t1,t2)=true:=t0r.2 (.inl ⟨m,m1,by simp[m2]⟩);have:=(behind i h2 (y0h ho.apart h1 (entLt _ _ e1) (entLt _ _ e2) hcl)).2;rw[h3] at this;cases this
  have hoja:(ops.toArray)[j]? = some o:=by simpa using hoj
  have guardEq:m0i ops o (TD ops L T0 D)=m0i ops o (TD ops L T0 (upto j)):=by
   unfold m0i;cases hgu:o.guard with
   | none=>rfl
   | some jw =>
    obtain ⟨g,want⟩:=jw;dsimp only;cases hgj:(ops[g]?).bind (·.dst) with
    | none=>rfl
    | some s =>
     dsimp only;rw[agree s (by simp[looks,hgu,hgj])]
  have ht:∀s,RdV cx.P W F E (TD ops L T0 D s) (a.tmps.getD s undef):=fun s=>by rw[←hst2];exact hs.t s
  unfold wpOpIn;rw[hoja];dsimp only;unfold l1n at hents;cases hej:ent L j with
  | none =>
   rw[hej] at hents next;have hw:=p0c (cx:=cx) ht (by rw[guardEq];exact hents);rw[hw];simp only[Bool.false_eq_true,if_false];refine ⟨fun _ _=>trivial,next _ W F E ⟨{ st with t:=putV st.t o.dst .undef },by simp[hst1,Ent.ups,a0u],?_,hs.skip hdst⟩⟩;funext s;rw[m0v,hst2];rfl
  | some x =>
   obtain ⟨x,u,s1,s2⟩:=x;rw[hej] at hents next;obtain ⟨hg,hev,hnm⟩:=hents;have hw:=p0c (cx:=cx) ht (by rw[guardEq];exact hg);rw[hw];simp only[if_true];have hres:restrict (HD L h0 D ops.length) (s1++s2)=restrict (HD L h0 (upto j) ops.length) (s1++s2):=by
    apply List.ext_getElem?;intro m;rw[i0z,i0z];by_cases hm:m∈s1++s2
    ·rw[HD_get (D:=D) (D':=upto j) ops.length fun i hi hmi => ?_];obtain ⟨y,v,t1,t2,e2,m2⟩:=upsIn i hi m hmi;rcases Nat.lt_trichotomy i j with hij | hij | hij
     ·have hcl:clash (t1,t2) (s1,s2)=true:=t0r.2 (.inl ⟨m,m2,hm⟩);rw[(before i (y0h ho.apart hij (entLt _ _ e2) (entLt _ _ hej) hcl)).2,g0i.2 hij]
     ·subst hij;rw[hDj,o0j]
     ·have hcl:clash (s1,s2) (t1,t2)=true:=by
       rw[t0r];rcases List.mem_append.1 hm with q | q
       ·exact .inr ⟨m,m2,q⟩
       ·exact .inl ⟨m,q,by simp[m2]⟩
      rw[(behind i hi (y0h ho.apart hij (entLt _ _ hej) (entLt _ _ e2) hcl)).2];cases hu:upto j i with
      | false=>rfl
      | true=>rw[g0i] at hu;omega
    ·have:hasN (s1++s2) m=false:=by
      cases hh:hasN (s1++s2) m with
      | false=>rfl
      | true=>exact absurd (b0r.1 hh) hm
     rw[this];have key:∀(k:Heap),k.length=h0.length→(k[m]?).map (fun e=>if false=true then e else ((0,none):Nat×Option Blk))=if m<h0.length then some (0,none) else none:=by
      intro k hk;by_cases hlt:m<h0.length
      ·rw[List.getElem?_eq_getElem (by omega),if_pos hlt];rfl
      ·rw[List.getElem?_eq_none (by omega),if_neg hlt];rfl
     rw[key _ (k0g _ _ _ _),key _ (k0g _ _ _ _)]
   have hρ:∀y∈o.op.operands.toList,z0c cx (TD ops L T0 D) y=z0c cx (TD ops L T0 (upto j)) y:=by
    intro y hy;cases y with
    | tmp t =>
     exact agree t (by
      unfold looks;apply List.mem_append_left;rw[List.mem_filterMap]
      exact ⟨.tmp t,hy,rfl⟩)
    | _=>rfl
   have hev2:evOp cx call fx o (z0c cx (TD ops L T0 D)) (restrict (HD L h0 D ops.length) (s1++s2)) (fun x u=>some (x,u))=some (x,u):=by
    rw[hres,g1a o _ hρ];exact hev
   have hev3:evOp cx call fx o (z0c cx (TD ops L T0 D)) (restrict (HD L h0 D ops.length) (s1++s2)) (fun x u=>if x0h s2 h0.length u=true then some (x,u) else none)=some (x,u):=by
    rw[d1t,hev2];simp only[Option.bind_some];rw[if_pos (t0d.2 hnm)]
   have hctx:Ctx cx call W F E (· ∈ s1++s2) (restrict (HD L h0 D ops.length) (s1++s2)) (z0c cx (TD ops L T0 D)) a:=by
    refine ⟨hc.later hs.later,tab,?_,fun y => ?_,hs.hF⟩
    ·rw[←hst1];exact hs.hr.restrict
    ·rw[←hst2,←opnd_T];exact m0c (hc.glob.later hs.later) hs.t y
   obtain ⟨x',u',hk',hok⟩:=w0d (fx:=fx) hctx hfn (k:=fun x u=>if x0h s2 h0.length u=true then some (x,u) else none) (by
    intro x' u' r' hk n hn;dsimp only at hk;split at hk
    case isFalse=>cases hk
    rename_i hin;obtain ⟨q1,q2⟩:=t0d.1 hin n hn
    exact ⟨by simp[q1],by rw[l0u,k0g];exact q2⟩) hev3
   dsimp only at hk';split at hk'
   case isFalse=>cases hk'
   simp only[Option.some.injEq,Prod.mk.injEq] at hk';obtain ⟨rfl,rfl⟩:=hk';refine hok rd _ _ (d1s hev3 rd _) fun v W' F' E' hp hv => ?_
   have hpw:=OpPost.widen (by rw[←hst1];exact hs.hr) hp (fun n hn=>by simp[(hnm n hn).1]);rw[←hst1] at hpw;refine next _ W' F' E' ⟨_,?_,?_,hs.step hdst hpw hv⟩
   ·rw[hst1];rfl
   ·funext s;rw[m0v,hst2];rfl
end
end Go.Flat
end
section
namespace Go.Flat
open Go.RowKit (Below)
section
variable {cx:Cx} {call:Oracle cx} {fx:Hints} {W0 W W':World} {F0 F F':Fz} {O0:List Nat} {E E':EnvM} {h:Heap} {a:Act} {R:Type} {nt:Slots} {st:St}
theorem u0m {rd:Option Nat} {id:Nat} {ops:Array Oper} {draw:Bool} {Q:Exit→Act→World→Prop} {k:St→Option R} {r:R} (hc:CallSound cx call W0 F0) (tab:e0d cx) (hfn:FnOk cx call) (hin:InOk cx call) (hm:cx.P.follows .mixedOrders=true)
  (hd:z0y nt.nt nt.K ops.toList=true) (hs:StRel cx W0 F0 O0 nt st a W F E) (hk:x0r cx call fx ops.toList draw st k=some r)
  (hQ:∀st' a' W' F' E',k st'=some r→StRel cx W0 F0 O0 nt st' a' W' F' E'→Q .normal a' W'):(Code.region id ops draw).wpIn (Rnd rd) 0 cx.P Q a W:=by
 unfold x0r at hk;cases draw with
 | false =>
  dsimp only at hk;apply wpIn_region;have:=c1c (W0:=W0) (F0:=F0) (O0:=O0) (nt:=nt) hc tab hfn hin ops.toList rd Q ops.toList 0 st a W F E k r (by simp) hd hs hk hQ;rw[List.range_eq_range']
  simpa using this
 | true =>
  dsimp only at hk;split at hk
  case isFalse=>cases hk
  rename_i hap;simp only[z0z,Bool.and_eq_true] at hap;obtain ⟨h1,h2,h3⟩:=hap;obtain ⟨L,st',hk',htr⟩:=z0v ops.toList ops.toList 0 st [] _ r hk;split at hk'
  case isFalse=>cases hk'
  rename_i hapt;have hnd:=f0z.1 h1;have hz:∀i,upto 0 i=false:=fun i=>by
   cases hu:upto 0 i with
   | false=>rfl
   | true=>rw[g0i] at hu;omega
  have hT0:TD ops.toList L (getT st.t) (upto 0)=getT st.t:=by
   funext s;unfold TD;cases d0m ops.toList s 0 with
   | none=>rfl
   | some i=>simp only[hz i];rfl
  have hH0:∀(D:Nat→Bool) (n:Nat),(∀i,i<n→D i=false)→HD L st.h D n=st.h:=by
   intro D n;induction n with
   | zero=>intro _;rfl
   | succ n ih =>
    intro hD;simp only[HD,hD n (by omega),Bool.false_eq_true,if_false];exact ih fun i hi=>hD i (by omega)
  obtain ⟨k1,k2,k3⟩:=e1g (L:=L) (T0:=getT st.t) (h0:=st.h) hnd ops.toList 0 L _ _ (by simp) (by simp) hT0.symm (hH0 _ _ fun i _=>hz i).symm htr;apply wpIn_region_any hm;refine c1f (W0:=W0) (F0:=F0) (O0:=O0) (nt:=nt) (L:=L) (T0:=getT st.t) (h0:=st.h) hc tab hfn ⟨hnd,h2,h3,fun i o ho=>k1 i o (Nat.zero_le _) ho,hapt⟩ hd (fun a' W' F' E' hr => ?_)
   ops.size _ a _ F E (by simp) ?_ ?_ ?_
  ·obtain ⟨st2,e1,e2,hs2⟩:=hr;rw[←k3] at e1;rw[←k2] at e2;exact hQ st' a' W' F' E' hk' (hs2.guard e1.symm (fun s=>by rw[e2]))
  ·have:((List.range ops.toList.length).filter fun i => !(Array.replicate ops.size false).getD i true).length≤(List.range ops.toList.length).length:=List.length_filter_le _ _
   simpa using this
  ·intro j o hj hl;exfalso;have hlt:j<ops.size:=by
    rcases Nat.lt_or_ge j ops.size with q | q
    ·exact q
    ·rw[List.getElem?_eq_none (by simpa using q)] at hj;cases hj
   simp[Array.getD_eq_getD_getElem?,hlt] at hl
  ·have hf:∀i,i<ops.toList.length→(Array.replicate ops.size false).getD i true=false:=by
    intro i hi;have:i<ops.size:=by simpa using hi
    simp[Array.getD_eq_getD_getElem?,this]
   refine ⟨st,(hH0 _ _ hf).symm,?_,hs.drew rfl rfl⟩;funext s;unfold TD;cases hw:d0m ops.toList s 0 with
   | none=>rfl
   | some i =>
    obtain ⟨_,o',q1,_⟩:=i0c ops.toList s 0 i hw;rw[Nat.sub_zero] at q1;have hi:i<ops.toList.length:=by
     rcases Nat.lt_or_ge i ops.toList.length with q | q
     ·exact q
     ·rw[List.getElem?_eq_none q] at q1;cases q1
    simp only[hf i hi];rfl
def c0x (l:List (Nat×Ty)) (a:Act):List Value:=l.map fun p=>a.tmps.getD p.1 undef
structure KeepRel (cx:Cx) (W0:World) (F0:Fz) (O0:List Nat) (nt:Slots) (D:Nat→Nat) (l:List (Nat×Ty)) (x:El (b0d l)) (a:Act) (W:World) (F:Fz) (O:List Nat):Prop where
 hF:∀b,F b→b<W.heap.size
 later:Later W0 F0 W F
 frame:∀b,b<W0.heap.size→b ∉ O0→W.heap[b]? = W0.heap[b]?
 own:∀b∈O,b∈O0∨W0.heap.size≤b
 fz:∀b,F b→F0 b∨b∈O0∨W0.heap.size≤b
 size:a.tmps.size=nt.nt
 keep:∀i∈nt.K,a.tmps.getD i undef=nt.kv i
 defers:(nt.md=false→a.defers=[])∧DefOk W0.heap.size W F (· ∈ O) a.defers
 forms:b0s (l.map (·.2)) (c0x l a)
 rd:RdB cx.P D (b0d l) x W F O (cat (c0x l a))
 nodup:O.Nodup
 free:∀b∈O,¬F b
theorem y0y (hc:CallSound cx call W F) (hr:HR cx.P W F E (fun _=>True) st.h) (ht:∀s,RdV cx.P W F E (getT st.t s) (a.tmps.getD s undef)):∀(l:List (Nat×Ty)) (x:El (b0d l)) (ns:List Nat),
  g0u cx call st l=some (x,ns)→∀D:Nat→Nat,(∀p∈c1g st l,E.m p.2 (a0h st.h p.2)=some (.box (D p.1)))→∃taken lent O,ns.Perm (taken++lent)∧b0s (l.map (·.2)) (c0x l a)∧RdB cx.P D (b0d l) x W (a0g F st.h E lent) O (cat (c0x l a))∧Takes F st.h E taken O:=by
 intro l;induction l with
 | nil =>
  intro x ns hk D hD;simp only[g0u,Option.some.injEq] at hk;obtain ⟨_,rfl⟩:=hk;exact ⟨[],[],[],List.Perm.refl _,trivial,rfl,Takes.nil⟩
 | cons p l ih =>
  obtain ⟨s,t⟩:=p;intro x ns hk D hD;simp only[g0u] at hk;split at hk
  case h_2=>cases hk
  rename_i ag cs hg;simp only[c1g,hg,List.mem_append] at hD;split at hk
  case isFalse=>cases hk
  rename_i hag;have hv:=ht s;rw[hg] at hv;cases h1:f0y cx call st.h t cs with
  | none=>rw[h1] at hk;cases hk
  | some z =>
   rw[h1] at hk;simp only[Option.bind_some] at hk;cases h2:g0u cx call st l with
   | none=>rw[h2] at hk;cases hk
   | some q =>
    rw[h2] at hk;simp only[Option.map_some,Option.some.injEq] at hk;obtain ⟨rfl,rfl⟩:=hk;obtain ⟨O1,k1,k2,k3⟩:=p0v hc hr (x:=z.1) (taken:=z.2.1) (lent:=z.2.2) h1 (fun p hp=>hD p (.inl hp)) hv.1;obtain ⟨t2,l2,O2,m0,m1,m2,m3⟩:=ih q.1 q.2 h2 D (fun p hp=>hD p (.inr hp));have hw:(a.tmps.getD s undef).cells.size=width t:=by simpa using k3
    refine ⟨z.2.1++t2,z.2.2++l2,O1++O2,?_,⟨RdV1.formed hv hag hw,m1⟩,⟨O1,O2,rfl,RdB.congr t (fun j hj => ?_) (k1.later t (Later.same a0g.left) (fun _ _=>rfl)),?_⟩,k2.append hr m3⟩
    ·rw[List.append_assoc,List.append_assoc];exact List.Perm.append_left _ ((List.Perm.append_left _ m0).trans (List.perm_append_comm_assoc _ _ _))
    ·show cat (a.tmps.getD s undef::c0x l a) j=_;rw[e0l hw j hj,one,Array.getElem?_toList]
    ·show RdB cx.P D (b0d l) q.1 W _ O2 (fun j=>cat (a.tmps.getD s undef::c0x l a) (width t+j));rw[f0l hw];exact m2.later (b0d l) (Later.same a0g.right) (fun _ _=>rfl)
theorem y0z (hr:HR cx.P W F E (fun _=>True) st.h) (ht:∀s,RdV cx.P W F E (getT st.t s) (a.tmps.getD s undef)):∀(l:List (Nat×Ty)) (x:El (b0d l)) (ns:List Nat),
  g0u cx call st l=some (x,ns)→∀p∈c1g st l,∃b,E.m p.2 (a0h st.h p.2)=some (.box b):=by
 intro l;induction l with
 | nil=>intro x ns _ p hp;cases hp
 | cons p l ih =>
  obtain ⟨s,t⟩:=p;intro x ns hk p hp;simp only[g0u] at hk;split at hk
  case h_2=>cases hk
  rename_i ag cs hg;simp only[c1g,hg,List.mem_append] at hp;split at hk
  case isFalse=>cases hk
  have hv:=ht s;rw[hg] at hv;obtain ⟨z,h1,hk⟩:=Option.bind_eq_some_iff.1 hk;obtain ⟨q,h2,hk⟩:=Option.map_eq_some_iff.1 hk;rcases hp with hp | hp
  ·unfold f0y at h1;obtain ⟨b,hb,_⟩:=Option.bind_eq_some_iff.1 h1;exact (d1a hr t cs b.1 b.2.1 b.2.2.1 b.2.2.2 hb _ hv.1 p hp).1
  ·exact ih q.1 q.2 h2 p hp
def PinE (top:Nat) (D:Nat→Nat) (E:EnvM):Prop:=∀d,d<top→E.m d 1=some (.box (D d))∧1≤E.top d
theorem PinE.mono {top:Nat} {D:Nat→Nat} {E E':EnvM} (h:PinE top D E) (hE:EnvLe E E'):PinE top D E':=fun d hd=>by
 obtain ⟨h1,h2⟩:=h d hd;exact ⟨by rw[hE.m d 1 h2];exact h1,Nat.le_trans h2 (hE.top d)⟩
def dOf (E:EnvM) (d:Nat):Nat:=match E.m d 1 with
 | some (.box b)=>b
 | _=>0
theorem PinE.of {top:Nat} {D:Nat→Nat} {E:EnvM} (h:PinE top D E) {d:Nat} (hd:d<top):dOf E d=D d:=by
 unfold dOf;rw[(h d hd).1]
def l0k (top:Nat) (nt:Slots):Prop:=∀E E',nt.I E→PinE top (dOf E) E'→nt.I E'
structure Pins (top:Nat) (nt:Slots) (D:Nat→Nat):Prop where
 to:∀E,PinE top D E→nt.I E
 of:∀E,nt.I E→∀d,d<top→E.m d 1=some (.box (D d))
theorem Pins.carry {top:Nat} {D:Nat→Nat} (h:Pins top nt D):l0k top nt:=fun E E' hI hp=>h.to E' fun d hd=>by
 obtain ⟨k1,k2⟩:=hp d hd;refine ⟨?_,k2⟩;rw[k1];unfold dOf;rw[h.of E hI d hd]
def Slots.pin (nt:Slots) (top:Nat) (D:Nat→Nat):Slots:=⟨nt.nt,nt.K,nt.kv,PinE top D,fun _ _ h hE=>h.mono hE,nt.md⟩
theorem Slots.pin_pins (top:Nat) (D:Nat→Nat):Pins top (nt.pin top D) D:=⟨fun _ h=>h,fun _ h d hd=>(h d hd).1⟩
theorem KeepRel.pin {D D':Nat→Nat} {top:Nat} {l:List (Nat×Ty)} {x:El (b0d l)} {O:List Nat} (h:KeepRel cx W0 F0 O0 nt D l x a W F O):KeepRel cx W0 F0 O0 (nt.pin top D') D l x a W F O :=
 ⟨h.hF,h.later,h.frame,h.own,h.fz,h.size,h.keep,h.defers,h.forms,h.rd,h.nodup,h.free⟩
theorem KeepRel.unpin {D D':Nat→Nat} {top:Nat} {l:List (Nat×Ty)} {x:El (b0d l)} {O:List Nat} (h:KeepRel cx W0 F0 O0 (nt.pin top D') D l x a W F O):KeepRel cx W0 F0 O0 nt D l x a W F O :=
 ⟨h.hF,h.later,h.frame,h.own,h.fz,h.size,h.keep,h.defers,h.forms,h.rd,h.nodup,h.free⟩
theorem StRel.unpin {D':Nat→Nat} {top:Nat} (h:StRel cx W0 F0 O0 (nt.pin top D') st a W F E) (hI:nt.I E):StRel cx W0 F0 O0 nt st a W F E :=
 ⟨h.hr,h.hF,h.t,h.later,h.frame,h.own,h.fz,h.size,h.keep,h.defers,hI⟩
theorem c1z {top:Nat} {h:Heap} {l:List (Nat×Nat)} (hp:pinB top h l=true) {p:Nat×Nat} (hm:p∈l):p.2=p.1∧a0h h p.1=1∧p.1<top:=by
 have:=List.all_eq_true.1 hp p hm;simp only[Bool.and_eq_true,Nat.blt_eq] at this;exact ⟨Nat.eq_of_beq_eq_true this.1,Nat.eq_of_beq_eq_true this.2.1,this.2.2⟩
theorem p0u (hc:CallSound cx call W0 F0) (hs:StRel cx W0 F0 O0 nt st a W F E) {l:List (Nat×Ty)} {x:El (b0d l)} (hk:j0v cx call fx st l=some x) {D:Nat→Nat} (hD:∀d,d<fx.top→(∃b,E.m d 1=some (.box b))→E.m d 1=some (.box (D d))) :
  ∃F' O,KeepRel cx W0 F0 O0 nt D l x a W F' O∧(∀b∈O,a0p st.h E b)∧(∀b,F' b→F b∨a0p st.h E b)∧Later W F W F':=by
 unfold j0v at hk;split at hk
 case h_2=>cases hk
 rename_i x' ns hp;split at hk
 case isFalse=>cases hk
 rename_i hnd;obtain ⟨hpin,hk⟩:=a0l hk;injection hk with hk;subst hk;obtain ⟨taken,lent,O,k0,k1,k2,k3⟩:=y0y (hc.later hs.later) hs.hr hs.t l x' ns hp D (fun p hpm=>by
  obtain ⟨q1,q2,q3⟩:=c1z hpin hpm;have hbx:=y0z (call:=call) hs.hr hs.t l x' ns hp p hpm;rw[q1,q2] at hbx ⊢
  exact hD p.1 q3 hbx)
 have hnd':(taken++lent).Nodup:=(k0.nodup_iff).1 (f0z.1 hnd);rw[List.nodup_append] at hnd';have hO:∀b∈O,a0p st.h E b:=fun b hb=>by
  obtain ⟨n,_,hat⟩:=k3.at_ b hb;exact ⟨n,hat⟩
 have hF2:∀b,a0g F st.h E lent b→F b∨a0p st.h E b:=fun b hb=>by
  rcases hb with hb | ⟨n,_,hat⟩
  ·exact .inl hb
  ·exact .inr ⟨n,hat⟩
 refine ⟨a0g F st.h E lent,O,⟨fun b hb=>a0g.lt hs.hr hs.hF hb,hs.later.trans (a0z lent),hs.frame,fun b hb => ?_,fun b hb => ?_,hs.size,hs.keep,?_,k1,k2,k3.nodup hnd'.1,?_⟩,hO,hF2,a0z lent⟩
 ·obtain ⟨n,_,hat⟩:=k3.at_ b hb;exact hs.own b ⟨n,hat⟩
 ·rcases hb with hb | ⟨n,_,hat⟩
  ·exact hs.fz b hb
  ·exact .inr (hs.own b ⟨n,hat⟩)
 ·exact ⟨hs.defers.1,hs.defers.2.turn fun D _ _ h1 h2 _=>⟨rfl,fun hf=>(hF2 D hf).elim h1 h2,fun hm=>h2 (hO D hm)⟩⟩
 ·rintro b hb (hf | ⟨n,hn,hat⟩)
  ·exact k3.free b hb hf
  ·obtain ⟨m,hm,hat'⟩:=k3.at_ b hb;exact hnd'.2.2 m hm n hn (b0h hs.hr hat' hat)
theorem s0y (hc:CallSound cx call W0 F0) (hs:StRel cx W0 F0 O0 nt st a W F E) {l:List (Nat×Ty)} {x:El (b0d l)} (hk:j0v cx call fx st l=some x) {D:Nat→Nat} (hD:∀d,d<fx.top→(∃b,E.m d 1=some (.box b))→E.m d 1=some (.box (D d))):∃F' O,KeepRel cx W0 F0 O0 nt D l x a W F' O:=by
 obtain ⟨F',O,h,_⟩:=p0u hc hs hk hD;exact ⟨F',O,h⟩
theorem k1h {E:EnvM} (d:Nat) (h:∃b,E.m d 1=some (.box b)):E.m d 1=some (.box (dOf E d)):=by
 obtain ⟨b,h⟩:=h;unfold dOf;rw[h]
theorem g1y {top:Nat} {D:Nat→Nat} {t:Ty} (hp:PinE top D E) (hk:tkOk top h t=true):DmAt D dm1 h E t:=by
 intro d hd;have:=List.all_eq_true.1 hk d hd;simp only[Bool.and_eq_true,Nat.blt_eq] at this;have hv:=Nat.eq_of_beq_eq_true this.2;exact ⟨(hp d this.1).1,hv.symm,(hp d this.1).2⟩
theorem w0c {bs:List (Nat×Nat×Blk)} (hf:d1p h bs=true):(∀n∈a0s bs,n<h.length)∧(a0s bs).Nodup:=by
 simp only[d1p,Bool.and_eq_true] at hf;refine ⟨fun n hn => ?_,f0z.1 hf.2⟩;simp only[a0s,List.mem_map] at hn;obtain ⟨b,hb,rfl⟩:=hn;have:=List.all_eq_true.1 hf.1 b hb
 simpa [Nat.blt_eq] using this
theorem k1o {P:Program} {t:Ty} {cs:List Cell} {v:Value} {g:Get} (hf:formed t v) (hc:d0c P W F E t cs g) (hg:∀j,j<width t→g j=one v j):RdV P W F E (.v (agg t) cs) v:=by
 obtain ⟨vs,v1,v2,v3⟩:=hc;have hvs:vs=v.cells.toList:=by
  apply List.ext_getElem?;intro j;by_cases hj:j<width t
  ·rw[←v2 j hj,hg j hj,one,Array.getElem?_toList]
  ·have:=hf.2.2;rw[List.getElem?_eq_none (by omega),List.getElem?_eq_none (by simp;omega)]
 subst hvs;exact ⟨v3,hf.1,hf.2.1⟩
theorem u0d {P:Program} {top:Nat} {D:Nat→Nat}:∀(l:List (Nat×Ty)) (x:El (b0d l)) (t:List (Nat×V)) (h:Heap) (nm:Nat) (k:St→Option R) (r:R),k0j top l x t h nm k=some r →
  ∀ {E:EnvM} {O:List Nat},HR P W F E (fun _=>True) h→PinE top D E→b0s (l.map (·.2)) (c0x l a)→RdB P D (b0d l) x W F O (cat (c0x l a))→O.Nodup→(∀b∈O,¬F b)→(∀b∈O,¬a0p h E b) →
   (∀s,RdV P W F E (getT t s) (a.tmps.getD s undef)) →
   ∃st' E',k st'=some r∧PinE top D E'∧HR P W F E' (fun _=>True) st'.h∧(∀s,RdV P W F E' (getT st'.t s) (a.tmps.getD s undef))∧(∀b,a0p st'.h E' b→a0p h E b∨b∈O):=by
 intro l;induction l with
 | nil=>intro x t h nm k r hk E O hr hpe _ _ _ _ _ ht;exact ⟨⟨t,h⟩,E,hk,hpe,hr,ht,fun b hb => .inl hb⟩
 | cons p l ih =>
  obtain ⟨s,ty⟩:=p;intro x t h nm k r hk E O hr hpe hf hx hO hF hL ht;simp only[k0j,b0n] at hk;obtain ⟨hfr,hk⟩:=a0l hk;rw[Bool.and_eq_true] at hfr;obtain ⟨hfr,htk⟩:=hfr;obtain ⟨f1,f2⟩:=w0c hfr;obtain ⟨O1,O2,rfl,x1,x2⟩:=hx;rw[List.nodup_append] at hO;have hf':formed ty (a.tmps.getD s undef)∧b0s (l.map (·.2)) (c0x l a):=hf;obtain ⟨E1,c1,cc1⟩:=f0q h dm1 ty x.1 [] nm hr x1 hO.1 (fun b hb=>hF b (by simp[hb])) (fun b hb=>hL b (by simp[hb])) (fun n hn=>⟨trivial,f1 n hn,a0y hr trivial (f1 n hn)⟩) f2 (g1y hpe htk)
  have hlive:∀b∈O2,¬a0p (b0w h (a0t h dm1 ty x.1 [] nm).2.1) E1 b:=by
   rintro b hb ⟨m,hat⟩;rcases c1.at_ m b hat with ⟨_,k⟩ | ⟨_,k⟩
   ·exact hO.2.2 b k b hb rfl
   ·exact hL b (by simp[hb]) ⟨m,k⟩
  have hg:(fun j=>cat (c0x ((s,ty)::l) a) (width ty+j))=cat (c0x l a):=f0l (vs:=c0x l a) hf'.1.2.2;have x2':RdB P D (b0d l) x.2 W F O2 (fun j=>cat (c0x ((s,ty)::l) a) (width ty+j)):=x2;rw[hg] at x2';obtain ⟨st',E2,m1,m0,m2,m3,m4⟩:=ih x.2 _ _ _ k r hk c1.hr (hpe.mono c1.env) hf'.2 x2' hO.2.1 (fun b hb=>hF b (by simp[hb])) hlive (fun s'=>by
   simp only[getT];cases hbe:Nat.beq s s' with
   | false=>exact (ht s').later (Later.refl W F) c1.env
   | true =>
    have:=Nat.eq_of_beq_eq_true hbe;subst this
    exact k1o hf'.1 cc1 (e0l (vs:=c0x l a) hf'.1.2.2))
  refine ⟨st',E2,m1,m0,m2,m3,fun b hb => ?_⟩;rcases m4 b hb with ⟨m,hat⟩ | q
  ·rcases c1.at_ m b hat with ⟨_,k⟩ | ⟨_,k⟩
   ·exact .inr (by simp[k])
   ·exact .inl ⟨m,k⟩
  ·exact .inr (by simp[q])
theorem j1l:∀(top:Nat) (h:Heap) (n:Nat) (x:Nat×Option Blk),(∀(m:Nat) (y:Nat×Option Blk),h[m]? = some y→y=(0,none))→(f1n top h)[n]? = some x→x=(if n<top then 1 else 0,none):=by
 intro top;induction top with
 | zero=>intro h n x hh hx;exact hh n x hx
 | succ k ih =>
  intro h n x hh hx;cases h with
  | nil=>simp[f1n] at hx
  | cons y h =>
   cases n with
   | zero=>simp[f1n] at hx;rw[←hx];rfl
   | succ n =>
    simp only[f1n,List.getElem?_cons_succ] at hx;have:=ih h n x (fun m y hy=>hh (m+1) y (by simpa using hy)) hx;rw[this];by_cases q:n<k
    ·rw[if_pos q,if_pos (by omega)]
    ·rw[if_neg q,if_neg (by omega)]
theorem k0s (fx:Hints) (top:Nat) (n:Nat) (x:Nat×Option Blk) (hx:(o0a fx top)[n]? = some x):x=(if n<top then 1 else 0,none):=by
 refine j1l top _ n x (fun m y hy => ?_) hx;rw[List.getElem?_replicate] at hy;split at hy
 ·injection hy with hy;exact hy.symm
 ·cases hy
def d1c (top:Nat) (D:Nat→Nat):EnvM:=⟨fun n ver=>if ver=1 then some (.box (D n)) else none,fun n=>if n<top then 1 else 0⟩
theorem q0a (top:Nat) (D:Nat→Nat):PinE top D (d1c top D):=fun d hd=>⟨by simp[d1c],by simp[d1c,hd]⟩
theorem v0v {P:Program} (fx:Hints) (top:Nat) (D:Nat→Nat):HR P W F (d1c top D) (fun _=>True) (o0a fx top):=by
 refine ⟨fun n ver b _ hb => ?_,fun n ver b hb => ?_,fun n m vn vm bn bm L M x h1 => ?_⟩
 ·exact (Prod.mk.inj (k0s fx top n _ hb)).1
 ·have:=k0s fx top n _ hb;injection this with _ h2;cases h2
 ·have:=k0s fx top n _ h1;injection this with _ h2;cases h2
theorem j0c (fx:Hints) {top:Nat} {E:EnvM} {b:Nat}:¬a0p (o0a fx top) E b:=by
 rintro ⟨n,ver,B,L,h1,_⟩;have:=k0s fx top n _ h1;injection this with _ h2;cases h2
theorem q0p {D:Nat→Nat} {l:List (Nat×Ty)} {x:El (b0d l)} {k:St→Option R} {r:R} {O:List Nat} (hk:h0s fx l x k=some r) (hI:∀E,PinE fx.top D E→nt.I E) (hs:KeepRel cx W0 F0 O0 nt D l x a W F O) :
  ∃st' E',k st'=some r∧StRel cx W0 F0 O0 nt st' a W F E'∧∀b,a0p st'.h E' b→b∈O:=by
 unfold h0s at hk;obtain ⟨st',E',h1,h0,h2,h3,h4⟩:=u0d (P:=cx.P) (W:=W) (F:=F) (a:=a) (D:=D) l x [] (o0a fx fx.top) fx.top k r hk (v0v fx fx.top D) (q0a fx.top D) hs.forms hs.rd hs.nodup hs.free (fun b _=>j0c fx) (fun s=>trivial);have hL:∀b,a0p st'.h E' b→b∈O:=fun b hb=>by
  rcases h4 b hb with q | q
  ·exact (j0c fx q).elim
  ·exact q
 exact ⟨st',E',h1,⟨h2,hs.hF,h3,hs.later,hs.frame,fun b hb=>hs.own b (hL b hb),hs.fz,hs.size,hs.keep,⟨hs.defers.1,hs.defers.2.turn fun D _ _ h1 h2 _=>⟨rfl,h1,fun h=>h2 (hL D h)⟩⟩,hI E' h0⟩,hL⟩
theorem n0u {D:Nat→Nat} {l:List (Nat×Ty)} {x:El (b0d l)} {k:St→Option R} {r:R} {O:List Nat} (hk:h0s fx l x k=some r) (hI:∀E,PinE fx.top D E→nt.I E) (hs:KeepRel cx W0 F0 O0 nt D l x a W F O) :
  ∃st' E',k st'=some r∧StRel cx W0 F0 O0 nt st' a W F E':=by
 obtain ⟨st',E',h1,h2,_⟩:=q0p hk hI hs;exact ⟨st',E',h1,h2⟩
end
end Go.Flat
end
