/-
 The flat reading and its soundness, merged part 3 of 3 (TK, TL, TM, TN, TO, TP, TQ, TR, TS, TT, TU, TV, TW, X, Y, Z).
-/
import Derived.Test.YtgkpkajaepphjaaGreatDoorFlatM2
import Derived.LoopN
import Derived.ProofKit
import Derived.OpenShut
import Derived.IntWalk
import Derived.ChangeArms
import Derived.MakeChecks
set_option linter.unusedVariables false
set_option linter.unusedSimpArgs false
section
namespace Go.Flat
open Go.RowKit (Below)
theorem q0q:∀ {l:List Nat},nodupB l=true↔l.Nodup:=by
 intro l;induction l with
 | nil=>simp[nodupB]
 | cons n r ih =>
  simp only[nodupB,Bool.and_eq_true,Bool.not_eq_true',ih,List.nodup_cons];refine and_congr_left fun _ => ?_
  cases hh:hasN r n with
  | true=>simp[e0y.1 hh]
  | false=>simp;exact fun k=>by rw[e0y.2 k] at hh;cases hh
theorem j1g {t l:List Nat} (h:apartB t l=true):t.Nodup∧True∧∀a∈t,∀b∈l,a≠b:=by
 unfold apartB at h;simp only[Bool.and_eq_true,List.all_eq_true,Bool.not_eq_true'] at h;refine ⟨q0q.1 h.1,trivial,fun a ha b hb e => ?_⟩;have:=h.2 a ha;rw[e] at this;rw[e0y.2 hb] at this;cases this
section
variable {cx:Cx} {call:c0g cx} {fx:Hints} {W W':World} {F F':Fz} {E E':EnvM} {h:Heap} {N:Nat→Prop} {ρ:Operand→V} {a:Act} {R:Type}
theorem RdV1.formed {P:Program} {t:Ty} {ag:Bool} {cs:List Cell} {v:Value} (hv:RdV1 P W F E ag cs v) (ha:ag=agg t) (hw:v.cells.size=width t):formed t v:=by
 subst ha;exact ⟨hv.2.1,hv.2.2,hw⟩
def HeadOk (P:Program) (W:World) (F:Fz) (E:EnvM) (h:Heap) (p:Ty) (c:Cell) (v:Value):Prop :=
 ∀n ver,backOf p c n ver→v.cells = #[v]∧d0n P W F E c v∧b0x h n=ver∧∃L,E.m n ver=some L∧L.fits h n p
def u0w (P:Program) (W:World) (F:Fz) (E:EnvM) (h:Heap):List Ty→List Cell→List Value→Prop
 | [],[],[]=>True
 | p::ps,c::cs,v::vs=>HeadOk P W F E h p c v∧u0w P W F E h ps cs vs
 | _,_,_=>False
theorem u0w.later {P:Program} (hl:Later W F W' F'):∀ {ps:List Ty} {heads:List Cell} {vs:List Value},u0w P W F E h ps heads vs→u0w P W' F' E h ps heads vs:=by
 intro ps;induction ps with
 | nil=>intro heads vs hh;match heads,vs,hh with
  | [],[],_=>exact trivial
 | cons p ps ih =>
  intro heads vs hh
  match heads,vs,hh with
  | c::cs,v::vs,hh =>
   refine ⟨fun n ver hc => ?_,ih hh.2⟩;obtain ⟨q1,q2,q3⟩:=hh.1 n ver hc;exact ⟨q1,q2.later hl (EnvLe.refl E),q3⟩
theorem argsB_rd (hc:CallSound cx call W F) (hr:HR cx.P W F E N h) (hρ:∀x,RdV cx.P W F E (ρ x) (a.eval x)):∀(ps:List Ty) (xs:List Operand) (x:El (tupU ps)) (taken lent:List Nat) (heads:List Cell),
  j1e cx call h ps (xs.map ρ)=some (x,taken,lent,heads)→∃O,d0q ps (xs.map a.eval)∧RdB cx.P (tupU ps) x W (a0t F h E lent) O (cat (xs.map a.eval))∧Takes F h E taken O∧u0w cx.P W F E h ps heads (xs.map a.eval):=by
 intro ps;induction ps with
 | nil =>
  intro xs x taken lent heads hk;cases xs with
  | nil =>
   simp only[List.map_nil,j1e,Option.some.injEq] at hk;obtain ⟨rfl,rfl,rfl,rfl⟩:=hk;exact ⟨[],trivial,rfl,Takes.nil,trivial⟩
  | cons y ys=>simp[j1e] at hk
 | cons p ps ih =>
  intro xs x taken lent heads hk;cases xs with
  | nil=>simp[j1e] at hk
  | cons y ys =>
   have hv:=hρ y;simp only[List.map_cons] at hk ⊢;cases hy:ρ y with
   | tup l=>rw[hy] at hk;simp[j1e] at hk
   | undef=>rw[hy] at hk;simp[j1e] at hk
   | lost=>rw[hy] at hk;simp[j1e] at hk
   | v ag cs =>
    rw[hy] at hk hv;simp only[j1e] at hk;split at hk
    case isFalse=>cases hk
    rename_i hag;cases h1:p0j cx call h p cs with
    | none=>rw[h1] at hk;cases hk
    | some z =>
     rw[h1] at hk;simp only[Option.bind_some] at hk;cases h2:j1e cx call h ps (ys.map ρ) with
     | none=>rw[h2] at hk;cases hk
     | some q =>
      rw[h2] at hk;simp only[Option.map_some,Option.some.injEq] at hk;obtain ⟨rfl,rfl,rfl,rfl⟩:=hk;obtain ⟨O1,k1,k2,k3⟩:=b1v hc hr (x:=z.1) (taken:=z.2.1) (lent:=z.2.2) h1 hv.1;obtain ⟨O2,m1,m2,m3,m4⟩:=ih ys q.1 q.2.1 q.2.2.1 q.2.2.2 h2;have hw:(a.eval y).cells.size=width p:=by simpa using k3
      refine ⟨O1++O2,⟨RdV1.formed hv hag hw,m1⟩,⟨O1,O2,rfl,RdB.congr p (fun j hj => ?_) (k1.later p (Later.same a0t.left) (fun _ _=>rfl)),?_⟩,k2.append hr m3,?_,m4⟩
      ·rw[k0t hw j hj,one,Array.getElem?_toList]
      ·rw[m0m hw];exact m2.later (tupU ps) (Later.same a0t.right) (fun _ _=>rfl)
      ·intro n ver hback;have ha:ag=false:=hag.trans (by rcases hback with ⟨e,o,rfl,_⟩ | ⟨e,rfl,_⟩ | ⟨e,o,l,rfl,_⟩<;>rfl);have hone:=hv.2.2 ha;have hcells:=oneCell_cells hone;cases cs with
       | nil=>rcases hback with ⟨e,o,_,hcell⟩ | ⟨e,_,hcell⟩ | ⟨e,o,l,_,hcell⟩<;>cases hcell
       | cons c r =>
        simp only[List.headD_cons] at hback;have hrd:=hv.1;rw[hcells] at hrd;obtain ⟨u,us,hu,q1,q2,q3⟩:=hrd.uncons;simp only[List.cons.injEq] at hu;obtain ⟨rfl,_⟩:=hu;refine ⟨hcells,q1,?_⟩;rcases hback with ⟨e,o,rfl,rfl⟩ | ⟨e,rfl,rfl⟩ | ⟨e,o,l,rfl,rfl⟩
        ·unfold p0j at h1;simp only[i0l] at h1;split at h1
         ·rename_i ver' bt bs hn;split at h1
          ·rename_i hver;obtain ⟨_,L,l1,l2⟩:=hr.blk n ver' _ hn;refine ⟨by rw[y0c hn,←hver.1],L,by rw[hver.1];exact l1,?_⟩;obtain ⟨b,arr,T,rfl,_⟩:=l2;exact trivial
          ·simp at h1
         ·simp at h1
        ·unfold p0j at h1;simp only[i0l] at h1;split at h1
         ·rename_i ver' e' xs hn;split at h1
          ·rename_i hver;obtain ⟨_,L,l1,l2⟩:=hr.blk n ver' _ hn;refine ⟨by rw[y0c hn,←hver],L,by rw[hver];exact l1,?_⟩;rcases l2 with ⟨rfl,_⟩ | ⟨b,cap,rfl,hA,_⟩
           ·exact fun e2 _ _ _ _ he2=>by cases he2
           ·obtain ⟨cs',T,_,_,_,hcap,_⟩:=hA;refine ⟨hcap.2,fun e2 he2 => ?_,fun e2 _ _ _ _ he2=>by cases he2⟩;injection he2 with he2;subst he2;cases hce:e0k (a := .own e') (b := .own e) xs with
            | none=>rw[hce] at h1;simp at h1
            | some z =>
             obtain ⟨he,_⟩:=b0r hce;injection he with he;rw[he]
          ·simp at h1
         ·simp at h1
        ·unfold p0j at h1;simp only[i0l] at h1;split at h1
         ·rename_i ver' e' xs hn;split at h1
          ·rename_i hver;obtain ⟨_,L,l1,l2⟩:=hr.blk n ver' _ hn;refine ⟨by rw[y0c hn,←hver],L,by rw[hver];exact l1,?_⟩;rcases l2 with ⟨rfl,rfl⟩ | ⟨b,cap,rfl,hA,_⟩
           ·intro e2 v e'' xs2 fr _ hn2;rw[hn] at hn2;simp only[Option.some.injEq,Prod.mk.injEq,Blk.arr.injEq] at hn2;obtain ⟨_,rfl,hx2,_⟩:=hn2;exact (eq_of_heq hx2).symm
           ·obtain ⟨cs',T,_,_,_,hcap,_⟩:=hA;refine ⟨hcap.2,(fun e2 he2=>by cases he2),fun e2 v e'' xs2 fr _ hn2 => ?_⟩;rw[hn] at hn2;simp only[Option.some.injEq,Prod.mk.injEq,Blk.arr.injEq] at hn2;obtain ⟨_,rfl,hx2,_⟩:=hn2;rw[eq_of_heq hx2];exact ⟨rfl,rfl⟩
          ·simp at h1
         ·simp at h1
theorem j2o {P:Program} {h0:Heap} {bt:List (Ty×Option Cell)} {vs:List Value} (hb:j0z P W F E h0 bt (cat vs)):∀(rs:List Ty) (ws:List Value),d0q rs ws →
  j0z P W F E h0 (rs.map (·,none)++bt) (cat (ws++vs)):=by
 intro rs;induction rs with
 | nil=>intro ws h;cases ws with
  | nil=>exact hb
  | cons=>exact h.elim
 | cons t rs ih =>
  intro ws h;cases ws with
  | nil=>exact h.elim
  | cons w ws =>
   show j0z P W F E h0 (rs.map (·,none)++bt) (fun j=>cat ((w::ws)++vs) (width t+j));rw[List.cons_append,m0m h.1.2.2];exact ih ws h.2
theorem outV_rs {P:Program}:∀(rs:List Ty) (ws:List Value) (bt:List (Ty×Option Cell)) (us:List Value) (vs:List (Bool×List Cell)),d0q rs ws→(∀x∈bt,x.2≠none)→OutV P W F E (rs.map (·,none)++bt) vs (cat (ws++us)) →
  vs.length=ws.length∧∀(j:Nat) p u,vs[j]? = some p→ws[j]? = some u→RdV1 P W F E p.1 p.2 u:=by
 intro rs;induction rs with
 | nil =>
  intro ws bt us vs h hbt ho;cases ws with
  | cons=>exact h.elim
  | nil =>
   have:vs=[]:=by
    simp only[List.map_nil,List.nil_append] at ho;generalize cat us=g at ho;induction bt generalizing g with
    | nil=>exact ho
    | cons e r ih =>
     obtain ⟨t,oc⟩:=e;cases oc with
     | none=>exact absurd rfl (hbt (t,none) (by simp))
     | some c=>exact ih (fun x hx=>hbt x (by simp[hx])) _ ho
   subst this;exact ⟨rfl,fun j p u hp=>by simp at hp⟩
 | cons t rs ih =>
  intro ws bt us vs h hbt ho;cases ws with
  | nil=>exact h.elim
  | cons w ws =>
   obtain ⟨cs,vs',rfl,⟨u,u1,u2,u3⟩,h3⟩:=ho;rw[List.cons_append,m0m h.1.2.2] at h3;obtain ⟨k1,k2⟩:=ih ws bt us vs' h.2 hbt h3;have hu:u=w.cells.toList:=by
    apply List.ext_getElem?;intro j;by_cases hj:j<width t
    ·rw[←u2 j hj,List.cons_append,k0t h.1.2.2 j hj,one,Array.getElem?_toList]
    ·have hw:=h.1.2.2;rw[List.getElem?_eq_none (by omega),List.getElem?_eq_none (by simp;omega)]
   subst hu;refine ⟨by simp[k1],fun j p q hp hq => ?_⟩;cases j with
   | zero =>
    simp at hp hq;subst hp;subst hq;exact ⟨u3,h.1.1,h.1.2.1⟩
   | succ j=>exact k2 j p q (by simpa using hp) (by simpa using hq)
theorem resV_rd {P:Program} {vs:List (Bool×List Cell)} {ws:List Value} (hl:vs.length=ws.length) (h:∀(j:Nat) p u,vs[j]? = some p→ws[j]? = some u→RdV1 P W F E p.1 p.2 u):RdV P W F E (resV vs) (f1x ws):=by
 unfold resV;split
 ·rename_i ag cs
  match ws,hl with
  | [w],_=>exact h 0 (ag,cs) w rfl rfl
 ·rename_i hne;have:ws.length≠1:=fun e=>by
   rw[e] at hl
   match vs,hl with
   | [(ag,cs)],_=>exact hne ag cs rfl
  unfold f1x;rw[if_neg this];exact ⟨ws,rfl,hl.symm,h⟩
theorem backs_rd {P:Program} {ps:List Ty} {heads:List Cell} {vs:List Value} (hh:u0w P W F E h ps heads vs) (hf:d0q ps vs):∀(back:List Nat),
  j0z P W F E h (back.filterMap fun i=>match ps[i]?,heads[i]? with | some p,some c=>some (p,some c) | _,_=>none) (cat (back.filterMap (vs[·]?))):=by
 have at_:∀(ps:List Ty) (heads:List Cell) (vs:List Value),u0w P W F E h ps heads vs→d0q ps vs→∀i:Nat,(ps[i]? = none∧heads[i]? = none∧vs[i]? = none)∨∃p c v,ps[i]? = some p∧heads[i]? = some c∧vs[i]? = some v∧HeadOk P W F E h p c v∧formed p v:=by
  intro ps;induction ps with
  | nil =>
   intro heads vs hh hf i
   match heads,vs,hh with
   | [],[],_=>exact .inl ⟨rfl,rfl,rfl⟩
  | cons p ps ih =>
   intro heads vs hh hf i
   match heads,vs,hh,hf with
   | c::heads,v::vs,hh,hf =>
    cases i with
    | zero=>exact .inr ⟨p,c,v,rfl,rfl,rfl,hh.1,hf.1⟩
    | succ i=>simpa using ih heads vs hh.2 hf.2 i
 intro back;induction back with
 | nil=>exact trivial
 | cons i r ih =>
  rcases at_ ps heads vs hh hf i with ⟨h1,h2,h3⟩ | ⟨p,c,v,h1,h2,h3,h4,h5⟩
  ·simpa [List.filterMap_cons,h1,h2,h3] using ih
  ·simp only[List.filterMap_cons,h1,h2,h3];refine ⟨fun n ver hc => ?_,?_⟩
   ·obtain ⟨k1,k2,k3⟩:=h4 n ver hc;refine ⟨v,?_,k2,k3⟩;rw[k0t h5.2.2 0 (by rcases hc with ⟨e,o,hp,_⟩ | ⟨e,hp,_⟩ | ⟨e,o,l,hp,_⟩<;>rw[hp]<;>simp[width]),one,k1];rfl
   ·rw[m0m h5.2.2];exact ih
theorem op_call {o:Oper} {cl:Go.Call} {k:V→Ups→Option R} {r:R} {f:FuncId} (cc:Ctx cx call W F E N h ρ a) (hfn:FnOk cx call) (hK:KOk N h k) (ho:o.op = .call cl) (hcal:cl.callee = .value (.func f))
  (hk:j2l cx call fx h o f (cl.args.toList.map ρ) k=some r):b0c cx W F E N h a o k r:=by
 unfold j2l at hk;split at hk
 ·cases hk
 rename_i s hs;split at hk
 ·cases hk
 rename_i x taken lent heads hargs;split at hk
 case isFalse=>cases hk
 rename_i hnd;simp only at hk;split at hk
 ·cases hk
 rename_i x' hx';cases hy:call f x' with
 | none=>rw[hy] at hk;cases hk
 | some y =>
  rw[hy] at hk;simp only[Option.bind_some] at hk;split at hk
  ·cases hk
  rename_i y' hy';obtain ⟨ex,rfl⟩:=b0r hx';obtain ⟨ey,rfl⟩:=b0r hy';obtain ⟨O,a1,a2,a3,a4⟩:=argsB_rd cc.hc cc.hr cc.ρ s.ps cl.args.toList x taken lent heads hargs;have hnd':=j1g hnd;have hOnd:=a3.nodup hnd'.1;have hOF:∀b∈O,¬a0t F h E lent b:=by
   rintro b hb (hf | ⟨n,hn,hat⟩)
   ·exact a3.free b hb hf
   ·obtain ⟨m,hm,hat'⟩:=a3.at_ b hb;exact hnd'.2.2 m hm n hn (d0a cc.hr hat' hat)
  have hFp:∀b,a0t F h E lent b→b<W.heap.size:=fun b hb=>a0t.lt cc.hr cc.hF hb
  have hcalls:=hfn f s hs (ex ▸ x) y hy W (a0t F h E lent) O (cl.args.toList.map a.eval) (cc.hc.glob.later (c0s lent)) hFp a1 (RdB.cast ex a2) hOnd hOF;obtain ⟨vs,u,hku,hout⟩:=outs_rd (P:=cx.P) h _ _ _ _ _ hk;obtain ⟨hck,hku⟩:=c0r hku;simp only[Bool.and_eq_true,List.all_eq_true] at hck;obtain ⟨hundup,hstay⟩:=hck;have hundup:(a0k u).Nodup:=q0q.1 hundup;obtain ⟨fn,hf1,hf2,hf3⟩:=cc.hc.fns.plain f s hs;generalize hstayE:(s.back.filterMap fun i=>(heads[i]?).bind fun c=>(nameOf c)[0]?)=stay at hku hstay;generalize htk:(taken.filter fun n => !hasN stay n)=takes at hku
  have hKu:=hK _ _ _ hku;have hsub:∀n∈takes,n∈taken:=fun n hn=>by rw[←htk,List.mem_filter] at hn;exact hn.1
  have hall:∀n∈taken,n∈takes∨n∈a0k u:=by
   intro n hn;by_cases hst:n∈stay
   ·exact .inr (e0y.1 (hstay n hst))
   ·left;rw[←htk,List.mem_filter];refine ⟨hn,?_⟩;cases hh:hasN stay n with
    | false=>rfl
    | true=>exact absurd (e0y.1 hh) hst
  refine ⟨_,_,hku,?_⟩;intro rd next Q hsem hnext;have hrun:(execOp a.eval o).run cx.P W = .ok (.enter f (cl.args.toList.map a.eval).toArray) W:=by
   have e1:(cl.args.toList.map a.eval).toArray=cl.args.map a.eval:=by
    apply Array.ext';simp
   rw[e1];have hf3':fn.body≠none:=fun e=>by rw[e] at hf3;cases hf3
   have hf2' : ¬ fn.name = "runtime.NumGoroutine" := by simpa using hf2
   simp[execOp,ho,resolve,hcal,Deferred.ofValue,Act.eval,invoke,callFunc,hf1,hf2',hf3']
  refine ⟨fun _ _=>trivial,?_⟩;rw[show (Rnd rd).round=rd from rfl,hsem,hrun,Oper.uponIn_enter];refine ⟨(fun k=>by cases k),y1u (Calls.mono hcalls fun e W' hpost => ?_)⟩;obtain ⟨v,F',rfl,hmove,ws,O',hws,rfl,hrd,hO'nd,hO'F,hO'⟩:=hpost;have core:∀(ls:List Nat) (F2:Fz),(∀n∈ls,n ∉ taken)→(∀n∈a0k (l0m h takes++a0q h ls++u),N n∧n<h.length)→Later W (a0t F h E ls) W' F2 →
    (∀b,F2 b→a0t F h E ls b∨b∈O∨(W.heap.size≤b∧b<W'.heap.size))→RdB cx.P (cx.out f) y W' F2 O' (cat (ws++s.back.filterMap ((cl.args.toList.map a.eval)[·]?)))→(∀b∈O',¬F2 b) →
    ∃E',OpPost cx.P W F E N h W' F2 E' (l0m h takes++a0q h ls++u)∧RdV cx.P W' F2 E' (resV vs) (f1x ws):=by
   intro ls F2 hls hN hl hfz hrd hOF2;have hnames:∀n,n∈a0k (l0m h takes++a0q h ls++u)↔n∈takes∨n∈a0k (a0q h ls)∨n∈a0k u:=by
    intro n;simp[a0k,l0m]
   have hNt:∀n∈taken,N n∧n<h.length:=fun n hn=>by
    rcases hall n hn with k | k
    ·exact hN n ((hnames n).2 (.inl k))
    ·exact hN n ((hnames n).2 (.inr (.inr k)))
   obtain ⟨m1,m2,_⟩:=f2j (P:=cx.P) (O':=O') cc.hr a3 hNt hl hmove.frame hfz hO';have hl1:Later W F W' F2:=(c0s ls).trans hl;have heads':u0w cx.P W' F2 E h s.ps heads (cl.args.toList.map a.eval):=a4.later hl1;have hback:=j2o (bt:=s.back.filterMap fun i=>match s.ps[i]?,heads[i]? with | some p,some c=>some (p,some c) | _,_=>none) (backs_rd heads' a1 s.back) s.rs ws hws;obtain ⟨E1,c1,c2⟩:=hout m1 (RdB.cast ey hrd) hO'nd hOF2 m2 hback
    (fun n hn=>by
     obtain ⟨q1,q2⟩:=hN n ((hnames n).2 (.inr (.inr hn)))
     exact ⟨q1,by rw[b0p,b0p];exact q2,b0l cc.hr q1 q2⟩) hundup
   obtain ⟨E2,e1,hop⟩:=o2v cc.hr a3 hsub (by rw[←htk];exact hnd'.1.filter _) hall hls hl hmove.frame hfz hO' (fun b hb=>RdB.lt _ hrd b hb) hN c1;obtain ⟨z1,z2⟩:=outV_rs s.rs ws _ _ vs hws (fun x hx=>by
    rw[List.mem_filterMap] at hx;obtain ⟨i,_,hi⟩:=hx;split at hi
    ·injection hi with hi;subst hi;simp
    ·cases hi) (c2.mono e1)
   exact ⟨E2,hop,resV_rd z1 z2⟩
  cases hsh:shares (cx.out f) with
  | true =>
   rw[hsh] at hku hKu hnext;simp only[if_true] at hKu hnext;obtain ⟨E',hop,hv⟩:=core lent F' (fun n hn hn'=>hnd'.2.2 n hn' n hn rfl) hKu hmove.later hmove.fz hrd hO'F;exact hnext _ _ _ _ hop hv
  | false =>
   rw[hsh] at hku hKu hnext;simp only[Bool.false_eq_true,if_false] at hKu hnext;obtain ⟨E',hop,hv⟩:=core [] F (by simp) hKu (by rw[c0f];exact ⟨hmove.later.os,hmove.later.tape,hmove.later.output,hmove.later.size,fun b hb=>hmove.later.keep b (.inl hb),fun _ hb=>hb⟩)
    (fun b hb => .inl (by rw[c0f];exact hb)) (hrd.noshare _ hsh) (fun b hb hf=>hO'F b hb (hmove.later.more b (.inl hf)))
   exact hnext _ _ _ _ hop hv
theorem run_sub64 {P:Program} (x y c:Int) (hx:0≤x) (hy:0≤y) (hy':y<18446744073709551616) (hc0:0≤c) (hc:c≤1) (w:World) :
  (sub64Entry #[.int .u64 x,.int .u64 y,.int .u64 c]).run P w =
   .ok (.tuple #[.int .u64 ((x-y-c) % 18446744073709551616),.int .u64 (if x<y+c then 1 else 0)]) w:=by
 have key:∀k:Nat,k≤1→(sub64Entry #[.int .u64 x,.int .u64 y,.int .u64 (k:Int)]).run P w =
   .ok (Extern.MathBitsCarry.pair ((x.toNat+Extern.MathBitsCarry.m64-y.toNat-k) % Extern.MathBitsCarry.m64) (if x.toNat<y.toNat+k then 1 else 0)) w:=by
  intro k hk;have:k=0∨k=1:=by omega
  rcases this with rfl | rfl<;>rfl
 obtain ⟨k,rfl⟩:=Int.eq_ofNat_of_zero_le hc0;rw[key k (by omega)];obtain ⟨X,rfl⟩:=Int.eq_ofNat_of_zero_le hx;obtain ⟨Y,rfl⟩:=Int.eq_ofNat_of_zero_le hy;simp only[Extern.MathBitsCarry.pair,Extern.MathBitsCarry.m64,Int.toNat_natCast];congr 4
 ·simp;omega
 ·by_cases h:X<Y+k
  ·rw[if_pos h,if_pos (by omega)];rfl
  ·rw[if_neg h,if_neg (by omega)];rfl
theorem op_ext {o:Oper} {cl:Go.Call} {k:V→Ups→Option R} {r:R} {f:FuncId} {e:Nat} (cc:Ctx cx call W F E N h ρ a) (ho:o.op = .call cl) (hcal:cl.callee = .value (.func f)) (he:cx.ext f=some e)
  (hk:extK e (cl.args.toList.map ρ) k=some r):b0c cx W F E N h a o k r:=by
 obtain ⟨fn,ent,h1,h2,h3,h4,h5,h6⟩:=cc.hc.fns.ext f e he;have hrun:∀args v,cl.args.toList.map a.eval=args→(ent args.toArray).run cx.P W = .ok v W→(execOp a.eval o).run cx.P W = .ok (.value v) W:=by
  intro args v hargs hv;have e1:cl.args.map a.eval=args.toArray:=by
   rw[←hargs];apply Array.ext';simp
  have hc:=run_callFunc_extern h1 h2 h3 h4 h5 args.toArray W;rw[hv] at hc;simp only[Result.andThen] at hc;simp[execOp,ho,resolve,hcal,Deferred.ofValue,Act.eval,invoke,e1,hc]
 have three:∀x y c,cl.args.toList.map ρ=[.v false [.val (.int .u64) x],.v false [.val (.int .u64) y],.v false [.val (.int .u64) c]]→cl.args.toList.map a.eval=[.int .u64 x,.int .u64 y,.int .u64 c]:=by
  intro x y c hx;have hρ:=cc.ρ;generalize cl.args.toList=l at hx ⊢;rcases l with _ | ⟨p,_ | ⟨q,_ | ⟨s,_ | ⟨z,r⟩⟩⟩⟩
  case cons.cons.cons.nil =>
   simp only[List.map_cons,List.map_nil,List.cons.injEq,and_true] at hx ⊢;obtain ⟨hp,hq,hs⟩:=hx;have one:∀z n,ρ z = .v false [.val (.int .u64) n]→a.eval z = .int .u64 n:=by
    intro z n hz;have:=hρ z;rw[hz] at this;have h8:=oneCell_cells (this.2.2 rfl);have h9:=this.1;rw[h8] at h9;obtain ⟨u,us,hu,q1,_⟩:=h9.uncons;simp only[List.cons.injEq] at hu;rw[hu.1];have:=q1.2.2
    simpa [Rd,RdP] using this
   exact ⟨one _ _ hp,one _ _ hq,one _ _ hs⟩
  all_goals simp at hx
 have two:∀ {F2:Fz} {E2:EnvM} (p q:Int),RdV cx.P W F2 E2 (.tup [(false,[.val (.int .u64) p]),(false,[.val (.int .u64) q])]) (.tuple #[.int .u64 p,.int .u64 q]):=by
  intro F2 E2 p q;refine ⟨[.int .u64 p,.int .u64 q],rfl,rfl,fun j x u hx hu => ?_⟩;have one:∀n:Int,RdV1 cx.P W F2 E2 false [.val (.int .u64) n] (.int .u64 n):=fun n=>RdV.mk1 (c := .val (.int .u64) n) ⟨rfl,rfl,rfl⟩ rfl
  match j with
  | 0=>simp at hx hu;subst hx;subst hu;exact one p
  | 1=>simp at hx hu;subst hx;subst hu;exact one q
  | j+2=>simp at hx
 unfold extK at hk;split at hk
 ·rename_i k' x y c hargs;obtain ⟨hm,hk⟩:=c0r hk;simp only[Bool.and_eq_true,decide_eq_true_eq] at hm;injection h6 with h6;subst h6;have:=hrun _ _ (three x y c hargs) (run_add64 x y c hm.1 hm.2.1 hm.2.2.1 hm.2.2.2 W);exact ⟨_,_,hk,OpOk.of this (OpPost.grow (ns:=[]) cc.hr cc.hF (Grow.refl W _)) (two _ _)⟩
 ·rename_i k' x y c hargs;obtain ⟨hm,hk⟩:=c0r hk;simp only[Bool.and_eq_true,decide_eq_true_eq] at hm;injection h6 with h6;subst h6;have:=hrun _ _ (three x y c hargs) (run_sub64 x y c hm.1.1 hm.1.2 hm.2.1 hm.2.2.1 hm.2.2.2 W);exact ⟨_,_,hk,OpOk.of this (OpPost.grow (ns:=[]) cc.hr cc.hF (Grow.refl W _)) (two _ _)⟩
 ·cases hk
end
end Go.Flat
end
section
namespace Go.Flat
open Go.RowKit (Below)
section
variable {cx:Cx} {call:c0g cx} {fx:Hints} {W W':World} {F F':Fz} {E E':EnvM} {h:Heap} {N:Nat→Prop} {ρ:Operand→V} {a:Act} {R:Type}
theorem argsC_rd (hc:CallSound cx call W F) (hr:HR cx.P W F E N h) (hρ:∀x,RdV cx.P W F E (ρ x) (a.eval x)):∀(t:Ty) (xs:List Operand) (x:El t) (lent:List Nat),
  c1r cx call h t (xs.map ρ)=some (x,lent)→g0l cx.P t x W (a0t F h E lent) (xs.map a.eval):=by
 intro t;induction t with
 | unit =>
  intro xs x lent hk;cases xs with
  | nil=>exact rfl
  | cons y ys=>simp[c1r] at hk
 | pair p q _ ihq =>
  intro xs x lent hk;cases xs with
  | nil=>simp[c1r] at hk
  | cons y ys =>
   have hv:=hρ y;simp only[List.map_cons] at hk ⊢;cases hy:ρ y with
   | tup l=>rw[hy] at hk;simp[c1r] at hk
   | undef=>rw[hy] at hk;simp[c1r] at hk
   | lost=>rw[hy] at hk;simp[c1r] at hk
   | v ag cs =>
    rw[hy] at hk hv;simp only[c1r] at hk;split at hk
    case isFalse=>cases hk
    rename_i hag;cases h1:s0b cx call h p cs with
    | none=>rw[h1] at hk;cases hk
    | some z =>
     rw[h1] at hk;simp only[Option.bind_some] at hk;cases h2:c1r cx call h q (ys.map ρ) with
     | none=>rw[h2] at hk;cases hk
     | some w =>
      rw[h2] at hk;simp only[Option.map_some,Option.some.injEq,Prod.mk.injEq] at hk;obtain ⟨rfl,rfl⟩:=hk;obtain ⟨k1,k2⟩:=s0a hc hr (x:=z.1) (ns:=z.2) h1 hv.1;have hw:(a.eval y).cells.size=width p:=by simpa using k2
      refine ⟨_,_,rfl,RdV1.formed hv hag hw,Rd.congr p (fun j hj => ?_) (k1.later (Later.same a0t.left)),(ihq ys w.1 w.2 h2).later (Later.same a0t.right)⟩;simp[one]
 | _=>intro xs x lent hk;cases xs<;>simp[c1r] at hk
theorem toV_rd {P:Program} {t:Ty} {x:El t} {v:Value} (hf:formed t v) (hx:Rd P t x W F (one v)):RdV P W F E (toV t x) v:=by
 obtain ⟨vs,h1,h2,h3⟩:=o0y (E:=E) t x _ hx;have hvs:vs=v.cells.toList:=by
  apply List.ext_getElem?;intro j;by_cases hj:j<width t
  ·rw[←h2 j hj,one,Array.getElem?_toList]
  ·have:=hf.2.2;rw[List.getElem?_eq_none (by omega),List.getElem?_eq_none (by simp;omega)]
 subst hvs;exact ⟨h3,hf.1,hf.2.1⟩
theorem a1j {o:Oper} {cl:Go.Call} {k:V→Ups→Option R} {res:R} {z:Operand} {t r:Ty} {p:El t→Option (El r)} {x:El t} {y:El r} {lent:List Nat} (cc:Ctx cx call W F E N h ρ a) (ho:o.op = .call cl)
  (hcal:cl.callee = .value z) (hp:Rd cx.P (.fn t r) p W F (fun j=>if j=0 then some (a.eval z) else none)) (hargs:c1r cx call h t (cl.args.toList.map ρ)=some (x,lent)) (hy:p x=some y)
  (hk:k (toV r y) (a0q h (if shares r=true then lent else []))=some res):b0c cx W F E N h a o k res:=by
 obtain ⟨f,caps,hv,hpl,hcalls⟩:=hp;simp at hv;have hx:=argsC_rd cc.hc cc.hr cc.ρ t cl.args.toList x lent hargs;have hFp:∀b,a0t F h E lent b→b<W.heap.size:=fun b hb=>a0t.lt cc.hr cc.hF hb
 have hcall:=hcalls W (a0t F h E lent) _ x y (c0s lent) hFp hx hy;obtain ⟨fn,hf1,hf2,hf3⟩:=hpl;refine ⟨_,_,hk,?_⟩;intro rd next Q hsem hnext;have hrun:(execOp a.eval o).run cx.P W = .ok (.enter f ((cl.args.toList.map a.eval).toArray++caps)) W:=by
  have e1:(cl.args.toList.map a.eval).toArray=cl.args.map a.eval:=by
   apply Array.ext';simp
  rw[e1];have hf3':fn.body≠none:=fun e=>by rw[e] at hf3;cases hf3
  have hf2' : ¬ fn.name = "runtime.NumGoroutine" := by simpa using hf2
  simp[execOp,ho,resolve,hcal,hv,Deferred.ofValue,invoke,callFunc,hf1,hf2',hf3']
 refine ⟨fun _ _=>trivial,?_⟩;rw[show (Rnd rd).round=rd from rfl,hsem,hrun,Oper.uponIn_enter];refine ⟨(fun k=>by cases k),y1u (Calls.mono hcall fun e W' hpost => ?_)⟩;obtain ⟨v,F',rfl,hg,hfm,hrd⟩:=hpost;cases hsh:shares r with
 | true =>
  rw[hsh] at hnext;simp only[if_true] at hnext;exact hnext v W' F' E (OpPost.grow cc.hr cc.hF hg) (toV_rd hfm hrd)
 | false =>
  rw[hsh] at hnext;simp only[Bool.false_eq_true,if_false] at hnext;have hg2:Grow W (a0t F h E []) W' F:=by
   rw[c0f];exact ⟨hg.below,fun _ hb=>hb,fun _ hb => .inl hb⟩
  exact hnext v W' F E (OpPost.grow cc.hr cc.hF hg2) (toV_rd hfm (Rd.noshare r hsh hrd))
theorem op_callV {o:Oper} {cl:Go.Call} {k:V→Ups→Option R} {res:R} {z:Operand} {c:Cell} (cc:Ctx cx call W F E N h ρ a) (ho:o.op = .call cl) (hcal:cl.callee = .value z) (hz:ρ z = .v false [c])
  (hk:j2k cx call h c (cl.args.toList.map ρ) k=some res):b0c cx W F E N h a o k res:=by
 have hv:=cc.ρ z;rw[hz] at hv
 replace hv:=hv.single.1
 unfold j2k at hk;split at hk
 ·rename_i t r p;split at hk
  case isFalse=>cases hk
  split at hk
  case h_2=>cases hk
  rename_i x lent hargs;cases hy:p x with
  | none=>rw[hy] at hk;cases hk
  | some y =>
   rw[hy] at hk;exact a1j cc ho hcal hv.2.2 hargs hy hk
 ·rename_i f ct cv;split at hk
  case h_2=>cases hk
  rename_i s hs;split at hk
  case h_2=>cases hk
  rename_i r hr;simp only at hk;split at hk
  case h_2=>cases hk
  rename_i p hp;split at hk
  case h_2=>cases hk
  rename_i x lent hargs;cases hy:p x with
  | none=>rw[hy] at hk;cases hk
  | some y =>
   rw[hy] at hk;obtain ⟨caps,hv,hcap⟩:=hv;refine a1j cc ho hcal ?_ hargs hy hk;rw[hv];exact f2h cc.hc hp hcap
 ·cases hk
end
end Go.Flat
end
section
namespace Go.Flat
open Go.RowKit (Below)
section
variable {cx:Cx} {call:c0g cx} {fx:Hints} {W W':World} {F F':Fz} {E E':EnvM} {h:Heap} {N:Nat→Prop} {ρ:Operand→V} {a:Act} {R:Type}
theorem argT {ts:Array TypeId} {s:Shp} (h:(ts[0]?).map cx.shp=some s):∃t,ts[0]? = some t∧cx.shp t=s:=by
 cases ht:ts[0]? with
 | none=>rw[ht] at h;cases h
 | some t=>rw[ht] at h;injection h with h;exact ⟨t,rfl,h⟩
theorem u1a {o:Oper} {cl:Go.Call} {b:Builtin} {k:V→Ups→Option R} {r:R} (cc:Ctx cx call W F E N h ρ a) (hK:KOk N h k) (ho:o.op = .call cl) (hc:cl.callee = .builtin b)
  (hk:v0w cx call fx h o b cl.argTypes (cl.args.toList.map ρ) k=some r):b0c cx W F E N h a o k r:=by
 unfold v0w at hk;split at hk
 ·rename_i c ha;split at hk
  ·rename_i s hs;exact op_len cc ho hc ha hs hk
  ·cases hk
 ·rename_i cs ha;split at hk
  ·rename_i n e hs;exact m2g cc ho hc ha hs hk
  ·cases hk
 ·rename_i kd m kd' n ha;exact op_min cc ho hc ha hk
 ·rename_i kd m kd' n ha;exact op_max cc ho hc ha hk
 ·rename_i kd m kd' n kd'' l ha;exact op_min3 cc ho hc ha hk
 ·rename_i kd m kd' n kd'' l ha;exact op_max3 cc ho hc ha hk
 ·rename_i s x ha;obtain ⟨p,q,hargs,hp,hq⟩:=args2 ha;split at hk
  ·rename_i et hs hz;split at hk
   case h_2=>cases hk
   rename_i e he;cases hw:h0v cx et e&&Nat.blt 0 (cx.bytes et) with
   | false=>rw[hw] at hk;cases hk
   | true =>
    rw[hw] at hk;obtain ⟨t,ht,hs'⟩:=argT hs;refine m2h (fx:=fx) cc hK ho hc hargs ht hs' hz he hw ?_;rw[hp,hq];exact hk
  ·cases hk
 ·rename_i d s ha;obtain ⟨p,q,hargs,hp,hq⟩:=args2 ha;split at hk
  ·rename_i et hs;split at hk
   case h_2=>cases hk
   rename_i e0 he;obtain ⟨t,ht,hs'⟩:=argT hs;exact op_copy cc ho hc hargs ht hs' he hp hq hk
  ·cases hk
 ·rename_i d ha;obtain ⟨p,hargs,hp⟩:=args1 ha;split at hk
  ·rename_i et hs;obtain ⟨t,ht,hs'⟩:=argT hs;split at hk
   ·exact c2f cc ho hc hargs ht hp ⟨_,f0t cc.tab hs'⟩ hk
   ·split at hk
    case h_2=>cases hk
    rename_i e0 he;exact op_clear cc ho hc hargs ht hs' he hp hk
  ·cases hk
 ·cases hk
theorem p2a {kind:Nat} {ty:Option Ty} {x y:V} {kk:Cell→Option R} {r:R} (h:binK kind ty .mul x y kk=some r):binK kind ty .mul y x kk=some r:=by
 unfold binK at h;split at h
 ·rename_i k a k' b;split at h
  ·rename_i hk;have:k=k':=hk.resolve_right (by decide);subst this;unfold binK;simp only[true_or,if_true];simp only[binI] at h ⊢;rw[Int.mul_comm];exact h
  ·cases h
 ·simp[binS] at h
 ·split at h
  ·rename_i heq;cases heq
  ·rename_i heq;cases heq
  ·cases h
 ·split at h
  ·rename_i heq _;cases heq
  ·rename_i heq _;cases heq
  ·cases h
theorem p1k {o:Oper} {k:V→Ups→Option R} {r:R} (cc:Ctx cx call W F E N h ρ a) (hfn:FnOk cx call) (hK:KOk N h k) (hk:evOp cx call fx o ρ h k=some r):b0c cx W F E N h a o k r:=by
 unfold evOp at hk;dsimp only at hk;split at hk
 ·rename_i x ho;exact m2f cc (.inl ho) hk
 ·rename_i x ho;exact m2f cc (.inr ho) hk
 ·rename_i z x y ho;split at hk
  ·rename_i b hz;exact op_pick cc ho hz hk
  ·cases hk
 ·rename_i t ho;split at hk
  ·rename_i c ht;split at hk
   ·rename_i e z n hrow;cases hown:l2y fx o with
    | false=>rw[hown] at hrow;cases hrow
    | true=>rw[hown] at hrow;exact c2h (fx:=fx) cc hK ho ht hrow hk
   ·exact op_alloc (fx:=fx) cc hK ho ht hk
  ·cases hk
 ·rename_i t x ho;split at hk
  ·rename_i c ag cs ht hx;split at hk
   ·rename_i hl;exact op_box (fx:=fx) cc hK ho hx hl hk
   ·cases hk
  ·cases hk
 ·rename_i t ps ho;split at hk
  case h_2=>cases hk
  rename_i c ht;split at hk
  ·rename_i fs hs;split at hk
   ·rename_i cs hb hall;exact j1y cc ho ht hs hb hall hk
   ·cases hk
  ·rename_i n e hs;split at hk
   ·rename_i cs hb hall;exact c2g cc ho ht hs hb hall hk
   ·cases hk
  ·cases hk
 ·rename_i t n ps ho;split at hk
  case h_2=>cases hk
  rename_i et hs;split at hk
  case h_2=>cases hk
  rename_i e he;split at hk
  case h_2=>cases hk
  rename_i ls hp hw;split at hk
  case h_2=>cases hk
  rename_i xs lent hx;exact s1a (fx:=fx) cc hK ho hs he hp hw hx hk
 ·rename_i t x ho;split at hk
  ·rename_i c d ht hx;exact op_load cc.deRow ho ht hx hk
  ·cases hk
 ·rename_i t p x ho;split at hk
  ·rename_i c pc ag new ht hp hx;split at hk
   ·rename_i hw;exact op_store cc.deRow ho ht hp hx hw hk
   ·cases hk
  ·cases hk
 ·rename_i x ho;split at hk
  ·rename_i c hx;split at hk
   ·rename_i hn;exact c2d cc ho hx hn hk
   ·cases hk
  ·cases hk
 ·rename_i op t x y yt ho;cases hy:a1v y with
  | true=>rw[hy] at hk;exact op_nilSl cc ho hy hk
  | false =>
   rw[hy] at hk;simp only[cond_false] at hk;cases hm:isMul op&&p2b y with
   | false=>rw[hm] at hk;exact e2g cc ho hk
   | true =>
    rw[hm] at hk;simp only[cond_true] at hk;rw[Bool.and_eq_true] at hm;cases op<;>first | (exact absurd hm.1 (by decide)) | exact e2g cc ho (p2a hk)
 ·rename_i op t x ho;exact op_unOp cc ho hk
 ·rename_i s d x ho;split at hk
  ·rename_i k0 kd k1 n hs hd hx;exact i2h cc ho hs hd hx hk
  ·rename_i b hs hd hx;exact i2g cc ho hs hd hx hk
  ·rename_i et b hs hd hx;split at hk
   ·rename_i he;exact x1k cc ho hs hd he hx hk
   ·cases hk
  ·rename_i et c hs hd hx;split at hk
   ·rename_i he;exact r1z cc ho hs hd he hx hk
   ·cases hk
  ·cases hk
 ·rename_i f first caps ho
  split at hk
  ·rename_i t v lent h0 hc;exact c2e cc ho h0 hc hk
  ·cases hk
 ·rename_i t l c ho;split at hk
  case h_2=>cases hk
  rename_i et hs;split at hk
  case h_2=>cases hk
  rename_i e n m he hl hm;split at hk
  case h_2=>cases hk
  rename_i z hz hw;exact x1i (fx:=fx) cc hK ho hs he hl hm hz hw hk
 ·rename_i t x lo hi mx ho;split at hk
  ·rename_i hs;exact m2b cc ho hs hk
  ·rename_i et hs;split at hk
   ·rename_i ti hti;obtain ⟨ti',h1,_⟩:=(cc.tab et ti hti).info;exact m2d cc ho hs ⟨ti',h1⟩ hk
   ·cases hk
  ·rename_i n et hs;split at hk
   ·exact m2e cc ho hs hk
   ·exact m2c cc ho hs hk
  ·cases hk
 ·rename_i s x f ho;split at hk
  ·rename_i off ft c hf hx;cases hz:Nat.beq (cx.cells ft) 0 with
   | true=>rw[hz] at hk;cases hk
   | false =>
    rw[hz] at hk;simp only[cond_false] at hk;split at hk
    ·exact u0i cc ho hf hx hz rfl hk
    ·exact u0i cc ho hf hx hz rfl hk
    ·exact u0i cc ho hf hx hz rfl hk
    ·cases hk
  ·cases hk
 ·rename_i s x f ho;split at hk
  ·rename_i off ft cs hf hx;split at hk
   case h_2=>cases hk
   rename_i c hc;split at hk
   ·rename_i cs' hcut;exact op_field cc ho hf hx hc hcut hk
   ·cases hk
  ·cases hk
 ·rename_i t x i ho;split at hk
  ·rename_i n hi;exact x1j cc.deRow ho (y1a hi) hk
  ·cases hk
 ·rename_i t x i ho;split at hk
  ·rename_i n hi;exact op_index cc ho hi hk
  ·cases hk
 ·rename_i x i ho;split at hk
  ·rename_i vs hx;split at hk
   ·rename_i ag cs hi;exact i2f cc ho hx hi hk
   ·cases hk
  ·cases hk
 ·rename_i c ho;split at hk
  ·rename_i b hc;exact u1a (fx:=fx) cc hK ho hc hk
  ·rename_i f hc;split at hk
   ·rename_i e he;exact op_ext cc ho hc he hk
   ·exact op_call (fx:=fx) cc hfn hK ho hc hk
  ·rename_i z hc;split at hk
   ·rename_i c' hz;exact op_callV cc ho ‹_› hz hk
   ·cases hk
  ·cases hk
 ·cases hk
theorem f2b {o:Oper} {k:V→Ups→Option R} {r:R} {ρ:Operand→V} {h:Heap} (hk:evOp cx call fx o ρ h k=some r) (rd:Option Nat) (e:Operand→Value):o.semAt rd e=execOp e o:=by
 refine Oper.semAt_eq rd e o fun c hc => ?_
 unfold evOp at hk;rw[hc] at hk;cases hk
end
end Go.Flat
end
section
namespace Go.Flat
open Go.RowKit (Below)
structure Slots where
 nt:Nat
 K:List Nat
 kv:Nat→Value
def Slots.may (S:Slots) (d:Nat):Prop:=d<S.nt∧d ∉ S.K
section
variable {cx:Cx} {call:c0g cx} {fx:Hints} {W0 W W':World} {F0 F F':Fz} {O0:List Nat} {E E':EnvM} {h:Heap} {ρ:Operand→V} {a:Act} {R:Type} {nt:Slots} {st:St}
structure StRel (cx:Cx) (W0:World) (F0:Fz) (O0:List Nat) (nt:Slots) (st:St) (a:Act) (W:World) (F:Fz) (E:EnvM):Prop where
 hr:HR cx.P W F E (fun _=>True) st.h
 hF:∀b,F b→b<W.heap.size
 t:∀s,RdV cx.P W F E (getT st.t s) (a.tmps.getD s undef)
 later:Later W0 F0 W F
 frame:∀b,b<W0.heap.size→b ∉ O0→W.heap[b]? = W0.heap[b]?
 own:∀b,e0i st.h E b→b∈O0∨W0.heap.size≤b
 fz:∀b,F b→F0 b∨b∈O0∨W0.heap.size≤b
 size:a.tmps.size=nt.nt
 keep:∀i∈nt.K,a.tmps.getD i undef=nt.kv i
 defers:a.defers=[]
theorem d1t {P:Program} {N:World} (v:Value) (h1:v.oneCell'=true):d0n P N F E (a1y v) v:=by
 unfold a1y;split
 ·exact ⟨rfl,rfl,rfl⟩
 ·exact ⟨rfl,rfl,rfl⟩
 ·exact ⟨rfl,rfl,by simp[Rd,RdP]⟩
 ·exact rfl
 ·exact ⟨none,rfl⟩
 ·exact rfl
 ·trivial
theorem o2o {P:Program} (v:Value):RdV P W F E (f2g v) v:=by
 unfold f2g;split
 ·rename_i cs;cases h':cs.toList.all (·.oneCell') with
  | false=>exact trivial
  | true =>
   refine ⟨⟨by simp[Value.cells],fun j c u hj hu => ?_⟩,fun _=>⟨cs,rfl⟩,fun e=>by cases e⟩;simp only[Value.cells] at hu;rw[List.getElem?_map,hu] at hj;simp at hj;subst hj;have h1:u.oneCell'=true:=by
    rw[List.all_eq_true] at h';exact h' u (List.mem_of_getElem? hu)
   exact ⟨d1t u h1,h1⟩
 ·exact trivial
 ·cases h':v.oneCell' with
  | false=>exact trivial
  | true=>exact RdV.mk1 (d1t v h') h'
theorem r1y (hg:r0c cx W F) (ht:∀s,RdV cx.P W F E (getT st.t s) (a.tmps.getD s undef)) (x:Operand):RdV cx.P W F E (opnd cx st x) (a.eval x):=by
 cases x with
 | tmp t=>exact ht t
 | const v=>exact o2o v
 | global g =>
  show RdV cx.P W F E (match cx.glob g with | some x => .v false [.pin x.1 x.2 0] | none => .lost) (.pointer (some ⟨g,0,none⟩));cases h:cx.glob g with
  | none=>exact trivial
  | some x =>
   obtain ⟨h1,h2⟩:=hg g x.1 x.2 h;exact RdV.mk1 ⟨g,0,rfl,h1,h2⟩ rfl
 | func f=>exact RdV.mk1 ⟨#[],rfl,rfl⟩ rfl
theorem StRel.ctx (hc:CallSound cx call W0 F0) (tab:j0w cx) (hs:StRel cx W0 F0 O0 nt st a W F E):Ctx cx call W F E (fun _=>True) st.h (opnd cx st) a :=
 ⟨hc.later hs.later,tab,hs.hr,r1y (hc.glob.later hs.later) hs.t,hs.hF⟩
theorem e2c {dst:Option Nat} {v:Value} (hd:∀d,dst=some d→d<a.tmps.size) (s:Nat) :
  (a.put dst v).tmps.getD s undef=if dst=some s then v else a.tmps.getD s undef:=by
 cases dst with
 | none=>simp[Act.put]
 | some d =>
  have:=hd d rfl;simp only[Act.put,Array.getD_eq_getD_getElem?,Array.getElem?_setIfInBounds,Option.some.injEq];by_cases e:d=s
  ·subst e;simp[this]
  ·simp[e]
theorem a1c {t:List (Nat×V)} {dst:Option Nat} {x:V} (s:Nat):getT (putV t dst x) s=if dst=some s then x else getT t s:=by
 cases dst with
 | none=>simp[putV]
 | some d =>
  simp only[putV,getT,Option.some.injEq];by_cases e:d=s
  ·subst e;simp
  ·have:Nat.beq d s=false:=by
    cases hb:Nat.beq d s with
    | false=>rfl
    | true=>exact absurd (Nat.eq_of_beq_eq_true hb) e
   simp[this,e]
theorem put_size (dst:Option Nat) (v:Value):(a.put dst v).tmps.size=a.tmps.size:=by
 cases dst<;>simp[Act.put]
theorem put_defers (dst:Option Nat) (v:Value):(a.put dst v).defers=a.defers:=by
 cases dst<;>simp[Act.put]
theorem o2m {o:Oper} (h:(match o.dst with | some d=>Nat.blt d nt.nt && !hasN nt.K d | none=>true)=true) (d:Nat) (e:o.dst=some d):nt.may d:=by
 rw[e] at h;simp only[Bool.and_eq_true,Bool.not_eq_true'] at h;refine ⟨by simpa [Nat.blt_eq] using h.1,fun k => ?_⟩;rw[e0y.2 k] at h;exact absurd h.2 (by simp)
theorem StRel.step {dst:Option Nat} {v:Value} {x:V} {u:Ups} (hs:StRel cx W0 F0 O0 nt st a W F E) (hd:∀d,dst=some d→nt.may d) (hp:OpPost cx.P W F E (fun _=>True) st.h W' F' E' u) (hv:RdV cx.P W' F' E' x v) :
  StRel cx W0 F0 O0 nt { t:=putV st.t dst x,h:=a0y st.h u } (a.put dst v) W' F' E':=by
 have old:∀m b,atName st.h E m b→b∈O0∨W0.heap.size≤b:=fun m b hat=>hs.own b ⟨m,hat⟩
 have hsz:W0.heap.size≤W.heap.size:=hs.later.size;refine ⟨hp.hr,fun b hb => ?_,fun s => ?_,hs.later.trans hp.later,fun b hb hO => ?_,fun b hb => ?_,fun b hb => ?_,by rw[put_size];exact hs.size,fun i hi => ?_,by rw[put_defers];exact hs.defers⟩
 ·rcases hp.fz b hb with k | ⟨n,_,k⟩ | k
  ·exact Nat.lt_of_lt_of_le (hs.hF b k) hp.later.size
  ·exact Nat.lt_of_lt_of_le (hs.hr.lt b ⟨n,k⟩) hp.later.size
  ·exact k.2
 ·rw[e2c (fun d h=>by rw[hs.size];exact (hd d h).1),a1c];split
  ·exact hv
  ·exact (hs.t s).later hp.later hp.env
 ·rw[hp.frame b (by omega) (fun n _ hat => ?_)]
  ·exact hs.frame b hb hO
  ·rcases old n b hat with k | k
   ·exact hO k
   ·omega
 ·obtain ⟨m,hat⟩:=hb;by_cases hm:m∈a0k u
  ·rcases hp.own m b hm hat with ⟨n,_,k⟩ | k
   ·exact old n b k
   ·exact .inr (by omega)
  ·have:atName st.h E' m b:=by
    obtain ⟨ver,B,L,h1,h2⟩:=hat;exact ⟨ver,B,L,by rw[←b0q u st.h m hm];exact h1,h2⟩
   exact old m b ((v0x hp.env hs.hr).1 this)
 ·rcases hp.fz b hb with k | ⟨n,_,k⟩ | k
  ·exact hs.fz b k
  ·exact .inr (old n b k)
  ·exact .inr (.inr (by omega))
 ·rw[e2c (fun d h=>by rw[hs.size];exact (hd d h).1),if_neg (fun e=>(hd i e).2 hi)];exact hs.keep i hi
theorem StRel.skip {dst:Option Nat} (hs:StRel cx W0 F0 O0 nt st a W F E) (hd:∀d,dst=some d→nt.may d):StRel cx W0 F0 O0 nt { st with t:=putV st.t dst .undef } (a.put dst undef) W F E :=
 hs.step (u:=[]) hd (OpPost.refl hs.hr) rfl
theorem o1d {g:Nat} {b:Bool} (h:a.tmps.getD g undef = .bool b):a.tmps[g]? = some (.bool b):=by
 rw[Array.getD_eq_getD_getElem?] at h;cases hg:a.tmps[g]? with
 | none=>rw[hg] at h;cases h
 | some v=>rw[hg] at h;simp at h;rw[h]
theorem guard_rd {ops:List Oper} {o:Oper} {k:Bool→St→Option R} {r:R} (ht:∀s,RdV cx.P W F E (getT st.t s) (a.tmps.getD s undef)) (hk:p1e ops o st k=some r) :
  ∃run st',k run st'=some r∧Region.wanted o (yielded ops.toArray a.tmps)=run∧st'.h=st.h∧∀s,getT st'.t s=getT st.t s:=by
 unfold p1e at hk;split at hk
 ·rename_i hg;exact ⟨true,st,hk,by simp[Region.wanted,hg],rfl,fun _=>rfl⟩
 ·rename_i j want hg;split at hk
  ·cases hk
  rename_i g hj;have hj':((ops.toArray)[j]?).bind (·.dst)=some g:=by simpa using hj
  split at hk
  ·rename_i b hb;have hv:=ht g;rw[hb] at hv;have hv:=o1d (x0g hv);have same:∀s,getT ((g,V.v false [Cell.val .bool b])::st.t) s=getT st.t s:=by
    intro s;simp only[getT];cases hbe:Nat.beq g s with
    | false=>rfl
    | true=>rw[←Nat.eq_of_beq_eq_true hbe,hb];rfl
   cases b with
   | true=>exact ⟨want,_,hk,by simp only[Region.wanted,hg,yielded,hj',Option.bind_some,hv];cases want<;>rfl,rfl,same⟩
   | false=>exact ⟨!want,_,hk,by simp only[Region.wanted,hg,yielded,hj',Option.bind_some,hv];cases want<;>rfl,rfl,same⟩
  ·rename_i hb;have hv:=ht g;rw[hb] at hv;have hv:a.tmps.getD g undef=undef:=hv;refine ⟨false,st,hk,?_,rfl,fun _=>rfl⟩;simp only[Region.wanted,hg,yielded,hj',Option.bind_some];rw[Array.getD_eq_getD_getElem?] at hv;cases hgt:a.tmps[g]? with
   | none=>cases want<;>rfl
   | some v =>
    rw[hgt] at hv;simp at hv;subst hv;cases want<;>rfl
  ·cases hk
theorem StRel.guard {st':St} (hs:StRel cx W0 F0 O0 nt st a W F E) (h1:st'.h=st.h) (h2:∀s,getT st'.t s=getT st.t s):StRel cx W0 F0 O0 nt st' a W F E :=
 ⟨by rw[h1];exact hs.hr,hs.hF,fun s=>by rw[h2];exact hs.t s,hs.later,hs.frame,by rw[h1];exact hs.own,hs.fz,hs.size,hs.keep,hs.defers⟩
theorem all_iff {u:Ups} {n:Nat} (h:u.all (fun x=>Nat.blt x.1 n)=true):∀m∈a0k u,m<n:=by
 intro m hm;simp only[a0k,List.mem_map] at hm;obtain ⟨x,hx,rfl⟩:=hm;rw[List.all_eq_true] at h;have:=h x hx
 simpa [Nat.blt_eq] using this
theorem c2w (hc:CallSound cx call W0 F0) (tab:j0w cx) (hfn:FnOk cx call) (all:List Oper) (rd:Option Nat) (Q:Exit→Act→World→Prop):∀(ops:List Oper) (i:Nat) (st:St) (a:Act) (W:World) (F:Fz) (E:EnvM) (k:St→Option R) (r:R),
  all.drop i=ops→o2l nt.nt nt.K ops=true→StRel cx W0 F0 O0 nt st a W F E→n2z cx call fx all ops st k=some r →
  (∀st' a' W' F' E',k st'=some r→StRel cx W0 F0 O0 nt st' a' W' F' E'→Q .normal a' W')→wpOpsIn (Rnd rd) 0 cx.P all.toArray Q (List.range' i ops.length) a W:=by
 intro ops;induction ops with
 | nil =>
  intro i st a W F E k r _ _ hs hk hQ;exact hQ st a W F E hk hs
 | cons o rest ih =>
  intro i st a W F E k r hdrop hd hs hk hQ;have hget:all[i]? = some o:=by
   have:(all.drop i)[0]? = some o:=by rw[hdrop];rfl
   rw[List.getElem?_drop] at this
   simpa using this
  have hdrop':all.drop (i+1)=rest:=by rw[←List.tail_drop,hdrop];rfl
  simp only[o2l,List.all_cons,Bool.and_eq_true] at hd;obtain ⟨hd1,hd2⟩:=hd;have hdst:∀d,o.dst=some d→nt.may d:=fun d e=>o2m hd1 d e
  simp only[List.length_cons,List.range'_succ];simp only[n2z] at hk;obtain ⟨run,st1,hk1,hwant,he1,he2⟩:=guard_rd hs.t hk;have hs1:=hs.guard he1 he2;have hg:(all.toArray)[i]? = some o:=by simpa using hget
  simp only[wpOpsIn,hg];cases run with
  | true =>
   simp only[hwant,if_true];have hsem:=f2b hk1;have hsound:=p1k (fx:=fx) (hs1.ctx hc tab) hfn (o:=o) (r:=r) ?_ hk1
   ·obtain ⟨x,u,hku,hok⟩:=hsound;dsimp only at hku;split at hku
    case h_2=>cases hku
    refine hok rd _ _ (hsem rd _) fun v W' F' E' hp hv => ?_
    exact ih (i+1) _ _ W' F' E' k r hdrop' hd2 (hs1.step hdst hp hv) hku hQ
   ·intro x u r' hku n hn;dsimp only at hku;split at hku
    case h_2=>cases hku
    rename_i hall;exact ⟨trivial,all_iff hall n hn⟩
  | false =>
   simp only[hwant,Bool.false_eq_true,if_false];exact ⟨fun _ _=>trivial,ih (i+1) _ _ W F E k r hdrop' hd2 (hs1.skip hdst) hk1 hQ⟩
end
end Go.Flat
end
section
namespace Go.Flat
section
variable {cx:Cx} {call:c0g cx} {fx:Hints} {h:Heap} {ρ:Operand→V} {R:Type}
theorem f1b {α β:Type} (o:Option α) (f:α→Option R) (f':α→Option β) (g:β→Option R) (h:∀x,f x=(f' x).bind g):o.bind f=(o.bind f').bind g:=by cases o<;>simp[h]
theorem via {α β:Type} (o:Option α) {A:Option R} {B:Option β} {k:α→Option R} {k':α→Option β} {g:β→Option R} (h1:A=o.bind k) (h2:B=o.bind k') (h3:∀x,k x=(k' x).bind g):A=B.bind g:=by
 rw[h1,h2];exact f1b o k k' g h3
theorem f0o (b:Bool) (o:Option R) {α:Type} (f:α→Option R) (p:Option α) (hp:o=p.bind f):must b o=(must b p).bind f:=by
 cases b<;>simp[must,hp]
theorem b1a {α:Type} (b:Bool) (o o':Option R) {p p':Option α} {g:α→Option R} (h:o=p.bind g) (h':o'=p'.bind g):(bif b then o else o')=(bif b then p else p').bind g:=by cases b<;>assumption
theorem rowK_nat {α:Type} {e:Ty} {xs:List (El e)}:∀(n j:Nat) (k:List Cell→Option R) (f:List Cell→Option α) (g:α→Option R),(∀c,k c=(f c).bind g)→rowK e xs n j k=(rowK e xs n j f).bind g:=by
 intro n;induction n with
 | zero=>intro j k f g h;exact h []
 | succ n ih =>
  intro j k f g h;unfold rowK;exact f1b _ _ _ _ fun y=>ih _ _ _ _ fun c=>h _
theorem x1p (w:Nat) (c:Cell) (k:List Cell→Option R):x1q h w c k=(x1q h w c some).bind k:=by
 unfold x1q;split
 ·split
  ·split
   ·split<;>rfl
   ·rfl
  ·rfl
 ·split<;>rfl
 ·split
  ·split
   ·refine b1a _ _ _ ?_ ?_
    ·refine f1b _ _ _ _ fun y => ?_
     split<;>rfl
    ·refine b1a _ _ _ ?_ rfl;exact rowK_nat _ _ _ _ _ fun c=>b1a _ _ _ rfl rfl
   ·rfl
  ·rfl
 ·rfl
theorem o1g (c:Cell) (new:List Cell) (k:Ups→Option R):o1h cx call h c new k=(o1h cx call h c new some).bind k:=by
 unfold o1h;split
 ·split
  ·split
   ·split<;>rfl
   ·rfl
  ·rfl
 ·split
  ·split
   ·refine b1a _ _ _ ?_ ?_
    ·refine f1b _ _ _ _ fun y => ?_
     split
     ·split
      ·split<;>rfl
      ·rfl
     ·rfl
    ·refine b1a _ _ _ ?_ rfl;split
     ·refine f0o _ _ _ _ ?_;split<;>rfl
     ·rfl
   ·rfl
  ·rfl
 ·rfl
theorem v0y (e:Ty) (c:Cell) (k:List (El e)→Option R):arrK cx call h e c k=(arrK cx call h e c some).bind k:=by
 unfold arrK;split<;>rfl
theorem e2s (s:Shp) (c:Cell) (k:Nat→Option R):lenK h s c k=(lenK h s c some).bind k:=by
 unfold lenK;split
 ·split<;>rfl
 ·split
  ·rfl
  ·rfl
  ·split
   ·split<;>rfl
   ·rfl
  ·rfl
  ·rfl
 ·rfl
theorem v0r (i:Int) {α:Type} (k:Nat→Option R) (f:Nat→Option α) (g:α→Option R) (hk:∀j,k j=(f j).bind g):∀n j,u0e i n j k=(u0e i n j f).bind g:=by
 intro n;induction n with
 | zero=>intro j;rfl
 | succ n ih =>
  intro j;simp only[u0e];cases decide (i=(j:Int)) with
  | true=>exact hk j
  | false=>exact ih _
theorem j0u {α:Type} (b:Bool) (o:Option R) (p:Option α) (g:α→Option R) (h:o=p.bind g):(bif b then o else none)=(bif b then p else none).bind g:=by cases b<;>simp[h]
theorem w0z (t:TypeId) (x:V) (i:Int) (k:Cell→Option R):m0u cx h t x i k=(m0u cx h t x i some).bind k:=by
 unfold m0u;split
 ·cases Nat.beq _ 0 with
  | true=>rfl
  | false =>
   simp only[cond_false];split
   ·refine v0r _ _ _ _ ?_ _ _;intro _;rfl
   ·split
    ·cases at? _ i<;>rfl
    ·refine v0r _ _ _ _ ?_ _ _;intro _;rfl
   ·split
    ·exact f0o _ _ _ _ rfl
    ·refine v0r _ _ _ _ ?_ _ _;intro _;rfl
   ·rfl
 ·split
  ·refine j0u _ _ _ _ ?_;cases at? _ i<;>rfl
  ·split
   ·split
    ·refine j0u _ _ _ _ ?_;cases at? _ i<;>rfl
    ·rfl
   ·rfl
  ·split
   ·split
    ·refine j0u _ _ _ _ ?_;cases at? _ i<;>rfl
    ·rfl
   ·rfl
  ·rfl
 ·rfl
theorem p1c (t:TypeId) (x:V) (i:Int) (k:V→Option R):p1d cx t x i k=(p1d cx t x i some).bind k:=by
 unfold p1d;split
 ·split
  ·split
   ·cases at? _ i<;>rfl
   ·refine v0r _ _ _ _ (fun j => ?_) _ _;split<;>rfl
  ·rfl
 ·cases at? _ i<;>rfl
 ·rfl
theorem j2t (n l:Nat) (hi:Option V) {α:Type} (k:Nat→Nat→Option R) (f:Nat→Nat→Option α) (g:α→Option R) (hk:∀i j,k i j=(f i j).bind g):upK n l hi k=(upK n l hi f).bind g:=by
 unfold upK;split
 ·exact f0o _ _ _ _ (hk _ _)
 ·split
  ·exact f0o _ _ _ _ (hk _ _)
  ·rfl
theorem i0m (n:Nat) (lo hi:Option V) {α:Type} (k:Nat→Nat→Option R) (f:Nat→Nat→Option α) (g:α→Option R) (hk:∀i j,k i j=(f i j).bind g):l0t n lo hi k=(l0t n lo hi f).bind g:=by
 unfold l0t;split
 ·exact j2t _ _ _ _ _ _ hk
 ·split
  ·exact f0o _ _ _ _ (j2t _ _ _ _ _ _ hk)
  ·rfl
theorem o1m (et:TypeId) (x:V) (lo hi mx:Option V) (k:Cell→Option R):o1n cx h et x lo hi mx k=(o1n cx h et x lo hi mx some).bind k:=by
 unfold o1n;split
 ·split
  ·split
   ·rfl
   ·rfl
   ·split
    ·split<;>rfl
    ·rfl
   ·rfl
  ·rfl
 ·split
  ·exact j0u _ _ _ _ (i0m _ _ _ _ _ _ fun _ _=>rfl)
  ·exact i0m _ _ _ _ _ _ fun _ _=>rfl
  ·split
   ·split
    ·exact j0u _ _ _ _ (i0m _ _ _ _ _ _ fun _ _=>rfl)
    ·rfl
   ·rfl
  ·split
   ·split
    ·exact j0u _ _ _ _ (i0m _ _ _ _ _ _ fun _ _=>rfl)
    ·rfl
   ·rfl
  ·rfl
theorem o1k (n:Nat) (et:TypeId) (x:V) (lo hi mx:Option V) (k:Cell→Option R):o1l cx h n et x lo hi mx k=(o1l cx h n et x lo hi mx some).bind k:=by
 unfold o1l;split
 ·split
  ·split
   ·exact j0u _ _ _ _ (f0o _ _ _ _ (i0m _ _ _ _ _ _ fun _ _=>rfl))
   ·rfl
  ·rfl
 ·rfl
theorem g2m (n:Nat) (et:TypeId) (x:V) (lo hi mx:Option V) {α:Type} (k:Cell→Ups→Option R) (f:Cell→Ups→Option α) (g:α→Option R) (hk:∀c u,k c u=(f c u).bind g):sliceB cx h n et x lo hi mx k=(sliceB cx h n et x lo hi mx f).bind g:=by
 unfold sliceB;split
 ·split
  ·split
   ·split
    ·exact i0m _ _ _ _ _ _ fun _ _=>hk _ _
    ·rfl
   ·rfl
  ·rfl
 ·rfl
theorem o1i (x:V) (lo hi mx:Option V) (k:Cell→Option R):o1j x lo hi mx k=(o1j x lo hi mx some).bind k:=by
 unfold o1j;split
 ·exact i0m _ _ _ _ _ _ fun _ _=>rfl
 ·rfl
theorem j1f (o:Oper) (e:Ty) (bytes:Nat) (s x:V) (k:Cell→Ups→Option R):c1s cx call fx h o e bytes s x k=(c1s cx call fx h o e bytes s x fun c u=>some (c,u)).bind fun p=>k p.1 p.2:=by
 have news:∀ {α:Type} (kk:List (El e)→Option R) (f:List (El e)→Option α) (g:α→Option R),(∀ys,kk ys=(f ys).bind g) →
   (match x with
   | .v false [.val .str b]=>match e0k (a := .slice (.int .u8)) (b := .slice e) ((b:List UInt8).map fun (c:UInt8)=>(c.toNat:Int)) with | some y=>kk y | none=>none
   | .v false [c]=>arrK cx call h e c kk
   | _=>none) =
   (match x with
   | .v false [.val .str b]=>match e0k (a := .slice (.int .u8)) (b := .slice e) ((b:List UInt8).map fun (c:UInt8)=>(c.toNat:Int)) with | some y=>f y | none=>none
   | .v false [c]=>arrK cx call h e c f
   | _=>none).bind g:=by
  intro α kk f g hk;split
  ·split
   ·exact hk _
   ·rfl
  ·rw[v0y,v0y e _ f];cases arrK cx call h e _ some with
   | none=>rfl
   | some ys=>exact hk ys
  ·rfl
 unfold c1s;dsimp only;split
 ·exact news _ _ _ fun ys=>f0o _ _ _ _ rfl
 ·split
  ·split
   ·split
    ·exact news _ _ _ fun ys=>f0o _ _ _ _ rfl
    ·rfl
   ·rfl
  ·rfl
 ·split
  ·split
   ·split
    ·exact news _ _ _ fun ys=>f0o _ _ _ _ rfl
    ·rfl
   ·rfl
  ·rfl
 ·rfl
theorem o1w (c:Cell) {α:Type} (k:(n ver off len:Nat)→(e:Ty)→List (El e)→Option R) (f:(n ver off len:Nat)→(e:Ty)→List (El e)→Option α) (g:α→Option R)
  (hk:∀n ver off len e xs,k n ver off len e xs=(f n ver off len e xs).bind g):a1d h c k=(a1d h c f).bind g:=by
 unfold a1d;split
 ·split
  ·split
   ·exact hk _ _ _ _ _ _
   ·rfl
  ·rfl
 ·split
  ·split
   ·exact f0o _ _ _ _ (hk _ _ _ _ _ _)
   ·rfl
  ·rfl
 ·rfl
theorem y1y (o:Oper) (b:Builtin) (ts:Array TypeId) (args:List V) (k:V→Ups→Option R) :
  v0w cx call fx h o b ts args k=(v0w cx call fx h o b ts args fun x u=>some (x,u)).bind fun p=>k p.1 p.2:=by
 unfold v0w;split
 ·split
  ·exact via _ (e2s _ _ _) (e2s _ _ _) fun _=>rfl
  ·rfl
 ·split<;>rfl
 ·rfl
 ·rfl
 ·rfl
 ·rfl
 ·split
  ·split
   ·refine j0u _ _ _ _ ?_;exact via _ (j1f _ _ _ _ _ _) (j1f _ _ _ _ _ _) fun _=>rfl
   ·rfl
  ·rfl
 ·split
  ·split
   ·refine o1w _ _ _ _ fun n ver off len e xs => ?_
    split
    ·split
     ·split<;>rfl
     ·exact via _ (v0y _ _ _) (v0y _ _ _) fun _=>rfl
    ·rfl
   ·rfl
  ·rfl
 ·split
  ·split
   ·rfl
   ·split
    ·refine o1w _ _ _ _ fun n ver off len e xs => ?_
     split
     ·split<;>rfl
     ·rfl
    ·rfl
  ·rfl
 ·rfl
theorem p2d (t:Ty) (c:Cell) (x:El t) (nm:Nat) {α:Type} (k:Ups→Nat→Option R) (f:Ups→Nat→Option α) (g:α→Option R) (hk:∀u n,k u n=(f u n).bind g):u0g.backK h t c x nm k=(u0g.backK h t c x nm f).bind g:=by
 unfold u0g.backK;split
 ·rw[i0n,i0n];exact hk _ _
 ·exact hk _ _
 ·split
  ·split
   ·exact f0o _ _ _ _ (hk _ _)
   ·rfl
  ·rfl
 ·rfl
theorem x1g (e:Ty×Option Cell) (x:El e.1) (nm:Nat) {α:Type} (k:List (Bool×List Cell)→Ups→Nat→Option R) (f:List (Bool×List Cell)→Ups→Nat→Option α) (g:α→Option R)
  (hk:∀vs u n,k vs u n=(f vs u n).bind g):r1x h e x nm k=(r1x h e x nm f).bind g:=by
 obtain ⟨t,oc⟩:=e;cases oc with
 | none=>simp only[r1x];rw[i0n,i0n];exact hk _ _ _
 | some c=>simp only[r1x];exact p2d _ _ _ _ _ _ _ fun u n=>hk _ _ _
theorem l2z:∀(bt:List (Ty×Option Cell)) (y:El (tup (bt.map Prod.fst))) (nm:Nat) {α:Type} (k:List (Bool×List Cell)→Ups→Option R) (f:List (Bool×List Cell)→Ups→Option α) (g:α→Option R),
  (∀vs u,k vs u=(f vs u).bind g)→u0g h bt y nm k=(u0g h bt y nm f).bind g:=by
 intro bt;induction bt with
 | nil=>intro y nm α k f g hk;exact hk _ _
 | cons e r ih =>
  intro y nm α k f g hk;cases r with
  | nil=>rw[h1g,h1g];exact x1g _ _ _ _ _ _ fun vs u n=>hk _ _
  | cons e2 r=>rw[b1w,b1w];exact x1g _ _ _ _ _ _ fun vs u n=>ih _ _ _ _ _ fun vs' u'=>hk _ _
theorem o2x (o:Oper) (f:FuncId) (args:List V) (k:V→Ups→Option R):j2l cx call fx h o f args k=(j2l cx call fx h o f args fun x u=>some (x,u)).bind fun p=>k p.1 p.2:=by
 unfold j2l;split
 ·rfl
 ·split
  ·rfl
  ·split
   ·dsimp only;split
    ·rfl
    ·cases call f _ with
     | none=>rfl
     | some r =>
      simp only[Option.bind_some];split
      ·rfl
      ·exact l2z _ _ _ _ _ _ fun vs u=>f0o _ _ _ _ rfl
   ·rfl
theorem extK_nat (e:Nat) (args:List V) (k:V→Ups→Option R):extK e args k=(extK e args fun x u=>some (x,u)).bind fun p=>k p.1 p.2:=by
 unfold extK;split
 ·exact f0o _ _ _ _ rfl
 ·exact f0o _ _ _ _ rfl
 ·rfl
theorem o2w (c:Cell) (args:List V) (k:V→Ups→Option R):j2k cx call h c args k=(j2k cx call h c args fun x u=>some (x,u)).bind fun p=>k p.1 p.2:=by
 unfold j2k;split
 ·split
  ·split
   ·rename_i p _ _ _ _ _;cases p _<;>rfl
   ·rfl
  ·rfl
 ·split
  ·split
   ·dsimp only;split
    ·split
     ·rename_i p _ _ _ _ _;cases p _<;>rfl
     ·rfl
    ·rfl
   ·rfl
  ·rfl
 ·rfl
theorem binI_nat (op:BinOp) (kd:IntKind) (x y:Int) (k:Cell→Option R):binI op kd x y k=(binI op kd x y some).bind k:=by
 cases op<;>simp only[binI]<;>(try rfl)
 ·cases decide (y=0)<;>rfl
 ·cases decide (y=0)<;>rfl
 ·cases decide (y<0)<;>rfl
 ·cases decide (y<0)<;>rfl
theorem binS_nat (op:BinOp) (x y:List UInt8) (k:Cell→Option R):binS op x y k=(binS op x y some).bind k:=by
 cases op<;>simp only[binS]<;>(try rfl);exact j0u _ _ _ _ rfl
theorem f2n (kind:Nat) (ty:Option Ty) (op:BinOp) (x y:V) (k:Cell→Option R):binK kind ty op x y k=(binK kind ty op x y some).bind k:=by
 unfold binK;split
 ·split
  ·exact binI_nat _ _ _ _ _
  ·rfl
 ·exact binS_nat _ _ _ _
 ·split<;>rfl
 ·split<;>rfl
theorem o1x (kind:Nat) (op:BinOp) (x:V) (k:Cell→Option R):o1y kind op x k=(o1y kind op x some).bind k:=by
 unfold o1y;split
 ·rename_i xs;cases decide (xs.length=0)<;>rfl
 ·rename_i xs;cases decide (xs.length=0)<;>rfl
 ·rfl
 ·rfl
 ·rfl
theorem j2u (op:UnOp) (x:V) (k:Cell→Option R):unK op x k=(unK op x some).bind k:=by
 unfold unK;split<;>rfl
theorem f2c (o:Oper) (k:V→Ups→Option R):evOp cx call fx o ρ h k=(evOp cx call fx o ρ h fun x u=>some (x,u)).bind fun p=>k p.1 p.2:=by
 have cell:∀(f:(Cell→Option R)→Option R) (g:(Cell→Option (V×Ups))→Option (V×Ups)) (m:Option Cell),(∀k,f k=m.bind k)→(∀k,g k=m.bind k) →
   f (fun c=>k (.v false [c]) [])=(g fun c=>some (.v false [c],[])).bind fun p=>k p.1 p.2:=by
  intro f g m hf hg;rw[hf,hg];cases m<;>rfl
 unfold evOp;dsimp only;split
 ·rfl
 ·rfl
 ·split
  ·rename_i b _;cases b<;>rfl
  ·rfl
 ·split
  ·split<;>rfl
  ·rfl
 ·split
  ·split<;>rfl
  ·rfl
 ·split
  ·split
   ·split<;>rfl
   ·split<;>rfl
   ·rfl
  ·rfl
 ·split
  ·split
   ·split
    ·split
     ·split<;>rfl
     ·rfl
    ·rfl
   ·rfl
  ·rfl
 ·split
  ·exact via _ (x1p _ _ _) (x1p _ _ _) fun _=>rfl
  ·rfl
 ·split
  ·split
   ·exact via _ (o1g _ _ _) (o1g _ _ _) fun _=>rfl
   ·rfl
  ·rfl
 ·split
  ·split<;>rfl
  ·rfl
 ·rename_i y _ _;cases a1v y with
  | true=>exact cell _ _ _ (fun k=>o1x _ _ _ k) (fun k=>o1x _ _ _ k)
  | false=>exact cell _ _ _ (fun k=>f2n _ _ _ _ _ k) (fun k=>f2n _ _ _ _ _ k)
 ·exact cell _ _ _ (fun k=>j2u _ _ k) (fun k=>j2u _ _ k)
 ·split
  ·rfl
  ·rfl
  ·split<;>rfl
  ·split
   ·exact via _ (v0y _ _ _) (v0y _ _ _) fun _=>rfl
   ·rfl
  ·rfl
 ·split<;>rfl
 ·split
  ·split
   ·split
    ·exact f0o _ _ _ _ rfl
    ·rfl
   ·rfl
  ·rfl
 ·split
  ·exact cell _ _ _ (fun k=>o1i _ _ _ _ k) (fun k=>o1i _ _ _ _ k)
  ·split
   ·exact cell _ _ _ (fun k=>o1m _ _ _ _ _ k) (fun k=>o1m _ _ _ _ _ k)
   ·rfl
  ·split
   ·exact g2m _ _ _ _ _ _ _ _ _ fun _ _=>rfl
   ·exact cell _ _ _ (fun k=>o1k _ _ _ _ _ _ k) (fun k=>o1k _ _ _ _ _ _ k)
  ·rfl
 ·split
  ·cases Nat.beq _ 0 with
   | true=>rfl
   | false=>simp only[cond_false];split<;>rfl
  ·rfl
 ·split
  ·split
   ·split<;>rfl
   ·rfl
  ·rfl
 ·split
  ·exact cell _ _ _ (fun k=>w0z _ _ _ k) (fun k=>w0z _ _ _ k)
  ·rfl
 ·split
  ·exact via _ (p1c _ _ _ _) (p1c _ _ _ _) fun _=>rfl
  ·rfl
 ·split
  ·split<;>rfl
  ·rfl
 ·split
  ·exact y1y _ _ _ _ _
  ·split
   ·exact extK_nat _ _ _
   ·exact o2x _ _ _ _
  ·split
   ·exact o2w _ _ _
   ·rfl
  ·rfl
 ·rfl
end
end Go.Flat
end
section
namespace Go.Flat
open Go.RowKit (Below)
section
variable {cx:Cx} {call:c0g cx} {fx:Hints} {h:Heap} {ρ ρ':Operand→V} {R:Type}
theorem u0h {x:Option Operand} (h:∀y,x=some y→ρ y=ρ' y):x.map ρ=x.map ρ':=by
 cases x with
 | none=>rfl
 | some y=>simp[h y rfl]
theorem j2d (o:Oper) (k:V→Ups→Option R) (hρ:∀x∈o.op.operands.toList,ρ x=ρ' x):evOp cx call fx o ρ h k=evOp cx call fx o ρ' h k:=by
 unfold evOp;dsimp only;generalize hop:o.op=op at hρ;cases op<;>simp only[Op.operands] at hρ<;>(try dsimp only)
 case move x=>rw[hρ x (by simp)]
 case assign x=>rw[hρ x (by simp)]
 case pick c a b=>rw[hρ c (by simp),hρ a (by simp),hρ b (by simp)]
 case box t x=>rw[hρ x (by simp)]
 case build t ps =>
  have:(ps.toList.map fun x=>(x.1,ρ x.2))=ps.toList.map fun x=>(x.1,ρ' x.2):=List.map_congr_left fun x hx=>by rw[hρ x.2 (by simp;exact ⟨x.1,Array.mem_toList_iff.1 hx⟩)]
  rw[this]
 case buildSlice t n ps =>
  have:(ps.toList.map fun x=>(x.1,ρ x.2))=ps.toList.map fun x=>(x.1,ρ' x.2):=List.map_congr_left fun x hx=>by rw[hρ x.2 (by simp;exact ⟨x.1,Array.mem_toList_iff.1 hx⟩)]
  rw[this]
 case load t x=>rw[hρ x (by simp)]
 case store t a x=>rw[hρ a (by simp),hρ x (by simp)]
 case nilCheck x=>rw[hρ x (by simp)]
 case binOp op t x y yt=>rw[hρ x (by simp),hρ y (by simp)]
 case unOp op t x=>rw[hρ x (by simp)]
 case convert s d x=>rw[hρ x (by simp)]
 case makeFunc t first caps =>
  have:caps.toList.map ρ=caps.toList.map ρ':=List.map_congr_left fun x hx=>hρ x (by simp;exact .inr (Array.mem_toList_iff.1 hx))
  cases t<;>first | simp only[this] | rfl
 case makeSlice t l c=>rw[hρ l (by simp),hρ c (by simp)]
 case slice t x lo hi mx =>
  rw[hρ x (by simp),u0h (x:=lo) fun y hy=>hρ y (by simp[hy]),u0h (x:=hi) fun y hy=>hρ y (by simp[hy]),u0h (x:=mx) fun y hy=>hρ y (by simp[hy])]
 case fieldAddr s x f=>rw[hρ x (by simp)]
 case field s x f=>rw[hρ x (by simp)]
 case indexAddr t x i=>rw[hρ x (by simp),hρ i (by simp)]
 case index t x i=>rw[hρ x (by simp),hρ i (by simp)]
 case extract x i=>rw[hρ x (by simp)]
 case call c =>
  simp only[Call.operands] at hρ;have h1:c.args.toList.map ρ=c.args.toList.map ρ':=List.map_congr_left fun x hx=>hρ x (by simp;exact .inr (Array.mem_toList_iff.1 hx))
  have h2:∀z,c.callee = .value z→ρ z=ρ' z:=fun z hz=>hρ z (by simp[hz])
  rw[h1];cases hcal:c.callee with
  | builtin b=>rfl
  | invoke r n=>rfl
  | value z=>cases z<;>simp only[h2 _ hcal]
end
theorem o0m (h:Heap) (ns:List Nat) (n:Nat):(restrict h ns)[n]? = (h[n]?).map fun e=>if hasN ns n=true then e else (0,none):=by
 unfold restrict;rw[List.getElem?_map,List.getElem?_zipIdx];cases h[n]? <;> simp
theorem n0u {h:Heap} {ns:List Nat} {n:Nat} (hn:n∈ns):(restrict h ns)[n]? = h[n]? := by
 rw[o0m,e0y.2 hn];cases h[n]? <;> simp
theorem d1c {h:Heap} {ns:List Nat} {n:Nat} (hn:n ∉ ns) {ver:Nat} {B:Blk}:(restrict h ns)[n]? ≠ some (ver,some B):=by
 rw[o0m];have:hasN ns n=false:=by
  cases hh:hasN ns n with
  | false=>rfl
  | true=>exact absurd (e0y.1 hh) hn
 rw[this];cases h[n]? <;> simp
theorem t0d (h:Heap) (ns:List Nat):(restrict h ns).length=h.length:=by simp[restrict]
section
variable {P:Program} {W W':World} {F F':Fz} {E E':EnvM} {h:Heap}
theorem j1c {ns:List Nat} {n b:Nat} (hat:atName (restrict h ns) E n b):n∈ns∧atName h E n b:=by
 obtain ⟨ver,B,L,h1,h2⟩:=hat;by_cases hn:n∈ns
 ·rw[n0u hn] at h1;exact ⟨hn,ver,B,L,h1,h2⟩
 ·exact absurd h1 (d1c hn)
theorem HR.restrict {ns:List Nat} (hr:HR P W F E (fun _=>True) h):HR P W F E (· ∈ ns) (Flat.restrict h ns):=by
 have back:∀n ver B,(Flat.restrict h ns)[n]? = some (ver,some B)→n∈ns∧h[n]? = some (ver,some B):=by
  intro n ver B hn;by_cases hm:n∈ns
  ·rw[n0u hm] at hn;exact ⟨hm,hn⟩
  ·exact absurd hn (d1c hm)
 refine ⟨fun n ver b hn hb => ?_,fun n ver b hb => ?_,fun n m vn vm bn bm L M x h1 h2 => ?_⟩
 ·rw[n0u hn] at hb;exact hr.top n ver b trivial hb
 ·obtain ⟨k1,k2⟩:=back n ver b hb;obtain ⟨_,L,k3,k4⟩:=hr.blk n ver b k2;exact ⟨k1,L,k3,k4⟩
 ·exact hr.inj n m vn vm bn bm L M x (back n vn bn h1).2 (back m vm bm h2).2
theorem OpPost.widen {ns:List Nat} {u:Ups} (hr:HR P W F E (fun _=>True) h) (hp:OpPost P W F E (· ∈ ns) (Flat.restrict h ns) W' F' E' u) (hu:∀n∈a0k u,n∈ns):OpPost P W F E (fun _=>True) h W' F' E' u:=by
 have inn:∀n:Nat,n∈ns→(a0y h u)[n]? = (a0y (Flat.restrict h ns) u)[n]? := by
  intro n hn;by_cases hm:n∈a0k u
  ·exact k0g u _ _ n hm (t0d h ns).symm
  ·rw[b0q u _ n hm,b0q u _ n hm,n0u hn]
 have out:∀n:Nat,n ∉ ns→(a0y h u)[n]? = h[n]? := fun n hn=>b0q u _ n (fun k=>hn (hu n k))
 have old:∀m b,atName (Flat.restrict h ns) E m b→atName h E m b:=fun m b k=>(j1c k).2
 have verle:∀n ver B,h[n]? = some (ver,some B)→ver≤E.top n:=fun n ver B hn=>Nat.le_of_eq (hr.top n ver _ trivial hn)
 have far:∀n ver B L b,n ∉ ns→h[n]? = some (ver,some B)→E.m n ver=some L→L.blk=some b→b<W.heap.size∧(∀m∈a0k u,¬atName (Flat.restrict h ns) E m b):=by
  intro n ver B L b hn h1 h2 h3;refine ⟨hr.lt b ⟨n,ver,B,L,h1,h2,h3⟩,fun m hm hat => ?_⟩;have:=d0a hr (old m b hat) ⟨ver,B,L,h1,h2,h3⟩;subst this;exact hn (hu m hm)
 refine ⟨⟨fun n ver b _ hb => ?_,fun n ver B hb => ?_,fun n m vn vm bn bm L M x h1 h2 h3 h4 h5 h6 => ?_⟩,hp.later,hp.env,fun b hb hnot=>hp.frame b hb fun n hn k=>hnot n hn (old n b k),fun b hb => ?_,fun m b hm hat => ?_,hp.tops⟩
 ·by_cases hn:n∈ns
  ·rw[inn n hn] at hb;exact hp.hr.top n ver b hn hb
  ·rw[out n hn] at hb;rw[hp.tops n (fun k=>hn (hu n k))];exact hr.top n ver b trivial hb
 ·by_cases hn:n∈ns
  ·rw[inn n hn] at hb;obtain ⟨_,k⟩:=hp.hr.blk n ver B hb;exact ⟨trivial,k⟩
  ·rw[out n hn] at hb;obtain ⟨_,L,k1,k2⟩:=hr.blk n ver B hb;refine ⟨trivial,L,by rw[hp.env.m n ver (verle n ver B hb)];exact k1,k2.later hp.later hp.env fun b hLb => ?_⟩;obtain ⟨f1,f2⟩:=far n ver B L b hn hb k1 hLb;refine ⟨hp.frame b f1 f2,fun hnf hf => ?_⟩;rcases hp.fz b hf with q | ⟨m,hm,q⟩ | q
   ·exact hnf q
   ·exact f2 m hm q
   ·omega
 ·-- one in,one out
  have mixed:∀n m vn vm bn bm L M,n∈ns→m ∉ ns→(a0y h u)[n]? = some (vn,some bn)→(a0y h u)[m]? = some (vm,some bm)→E'.m n vn=some L→E'.m m vm=some M→L.blk=some x→M.blk=some x→False:=by
   intro n m vn vm bn bm L M hn hm h1 h2 h3 h4 h5 h6;rw[out m hm] at h2;rw[hp.env.m m vm (verle m vm bm h2)] at h4;obtain ⟨f1,f2⟩:=far m vm bm M x hm h2 h4 h6;rw[inn n hn] at h1;by_cases hnu:n∈a0k u
   ·rcases hp.own n x hnu ⟨vn,bn,L,h1,h3,h5⟩ with ⟨q,hq,k⟩ | k
    ·exact f2 q hq k
    ·omega
   ·rw[b0q u _ n hnu,n0u hn] at h1;rw[hp.env.m n vn (verle n vn bn h1)] at h3;have:=hr.inj n m vn vm bn bm L M x h1 h2 h3 h4 h5 h6;subst this;exact hm hn
  by_cases hn:n∈ns
  ·by_cases hm:m∈ns
   ·rw[inn n hn] at h1;rw[inn m hm] at h2;exact hp.hr.inj n m vn vm bn bm L M x h1 h2 h3 h4 h5 h6
   ·exact (mixed n m vn vm bn bm L M hn hm h1 h2 h3 h4 h5 h6).elim
  ·by_cases hm:m∈ns
   ·exact (mixed m n vm vn bm bn M L hm hn h2 h1 h4 h3 h6 h5).elim
   ·rw[out n hn] at h1;rw[out m hm] at h2;rw[hp.env.m n vn (verle n vn bn h1)] at h3;rw[hp.env.m m vm (verle m vm bm h2)] at h4;exact hr.inj n m vn vm bn bm L M x h1 h2 h3 h4 h5 h6
 ·rcases hp.fz b hb with q | ⟨m,hm,q⟩ | q
  ·exact .inl q
  ·exact .inr (.inl ⟨m,hm,old m b q⟩)
  ·exact .inr (.inr q)
 ·have:atName (a0y (Flat.restrict h ns) u) E' m b:=by
   obtain ⟨v,B,L,k1,k2⟩:=hat;exact ⟨v,B,L,by rw[←inn m (hu m hm)];exact k1,k2⟩
  rcases hp.own m b hm this with ⟨q,hq,k⟩ | k
  ·exact .inl ⟨q,hq,old q b k⟩
  ·exact .inr k
end
end Go.Flat
end
section
namespace Go.Flat
open Go.RowKit (Below)
theorem bit_eq (x i:Nat):Nat.beq (Nat.land (Nat.shiftRight x i) 1) 1=x.testBit i:=by
 have h:Nat.land (Nat.shiftRight x i) 1=(x >>> i) &&& 1:=rfl;rw[h];simp only[Nat.testBit,Nat.and_one_is_mod,Nat.one_and_eq_mod_two];rcases Nat.mod_two_eq_zero_or_one (x >>> i) with e | e<;>rw[e]<;>rfl
theorem h1h (bs:List Nat) (i j:Nat):ordered bs i j=(bs.getD j 0).testBit i:=bit_eq _ _
def asks (o:Oper) (i:Nat):Prop:=∃e∈o.after.toList,Region.binds .any e=true∧e.on=i
theorem p2c (acc:List Nat) (o:Oper) (i:Nat):(j2m acc o).testBit i=true↔∃m,asks o m∧(i=m∨(acc.getD m 0).testBit i=true):=by
 have key:∀(es:List Edge) (s:Nat),((es.foldl (fun s e=>match Region.binds .any e with | true=>Nat.lor s (Nat.lor (Nat.shiftLeft 1 e.on) (acc.getD e.on 0)) | false=>s) s).testBit i=true) ↔
   (s.testBit i=true∨∃e∈es,Region.binds .any e=true∧(i=e.on∨(acc.getD e.on 0).testBit i=true)):=by
  intro es;induction es with
  | nil=>intro s;simp
  | cons e r ih =>
   intro s;rw[List.foldl_cons,ih];cases hb:Region.binds .any e with
   | false=>simp[hb]
   | true =>
    have h1:(Nat.lor s (Nat.lor (Nat.shiftLeft 1 e.on) (acc.getD e.on 0))).testBit i=(s.testBit i||((1 <<< e.on).testBit i||(acc.getD e.on 0).testBit i)):=by
     show (s ||| ((1 <<< e.on) ||| (acc.getD e.on 0))).testBit i=_;rw[Nat.testBit_or,Nat.testBit_or]
    have h2:(1 <<< e.on).testBit i=decide (i=e.on):=by
     rw[Nat.shiftLeft_eq,Nat.one_mul,Nat.testBit_two_pow];rw[decide_eq_decide];exact eq_comm
    dsimp only;rw[h1,h2];simp only[Bool.or_eq_true,decide_eq_true_eq,List.mem_cons];constructor
    ·rintro ((h | h | h) | ⟨e',he',h⟩)
     ·exact .inl h
     ·exact .inr ⟨e,.inl rfl,hb,.inl h⟩
     ·exact .inr ⟨e,.inl rfl,hb,.inr h⟩
     ·exact .inr ⟨e',.inr he',h⟩
    ·rintro (h | ⟨e',rfl | he',h1,h2⟩)
     ·exact .inl (.inl h)
     ·rcases h2 with h2 | h2
      ·exact .inl (.inr (.inl h2))
      ·exact .inl (.inr (.inr h2))
     ·exact .inr ⟨e',he',h1,h2⟩
 unfold j2m;refine (key o.after.toList 0).trans ?_;simp only[Nat.zero_testBit,Bool.false_eq_true,false_or,asks];constructor
 ·rintro ⟨e,h1,h2,h3⟩;exact ⟨e.on,⟨e,h1,h2,rfl⟩,h3⟩
 ·rintro ⟨m,⟨e,h1,h2,rfl⟩,h3⟩;exact ⟨e,h1,h2,h3⟩
theorem j1a:∀(ops:List Oper) (acc:List Nat) (m:Nat),m<acc.length→(befs ops acc)[m]? = acc[m]? := by
 intro ops;induction ops with
 | nil=>intro acc m _;rfl
 | cons o r ih =>
  intro acc m hm;simp only[befs];rw[ih _ m (by simp;omega),List.getElem?_append_left hm]
theorem befs_get:∀(ops:List Oper) (acc:List Nat) (k:Nat) (o:Oper),ops[k]? = some o→∃acc',(befs ops acc)[acc.length+k]? = some (j2m acc' o)∧acc'.length=acc.length+k∧∀m,m<acc.length+k→acc'[m]? = (befs ops acc)[m]? := by
 intro ops;induction ops with
 | nil=>intro acc k o h;simp at h
 | cons o' r ih =>
  intro acc k o h;cases k with
  | zero =>
   simp at h;subst h;refine ⟨acc,?_,rfl,fun m hm => ?_⟩
   ·simp only[befs,Nat.add_zero];rw[j1a r _ _ (by simp),List.getElem?_append_right (Nat.le_refl _)];simp
   ·simp only[befs,Nat.add_zero] at hm ⊢;rw[j1a r _ m (by simp;omega),List.getElem?_append_left hm]
  | succ k =>
   simp only[List.getElem?_cons_succ] at h;obtain ⟨acc',h1,h2,h3⟩:=ih (acc++[j2m acc o']) k o h;simp only[befs];simp only[List.length_append,List.length_cons,List.length_nil,Nat.zero_add] at h1 h2 h3;refine ⟨acc',by rw[←h1];congr 1;omega,by omega,fun m hm=>h3 m (by omega)⟩
theorem j1b:∀(ops:List Oper) (b k:Nat) (o:Oper),j2n ops b=true→ops[k]? = some o→∀i,asks o i→i<b+k:=by
 intro ops;induction ops with
 | nil=>intro b k o _ h;simp at h
 | cons o' r ih =>
  intro b k o hb h i hi;simp only[j2n,Bool.and_eq_true] at hb;cases k with
  | zero =>
   simp at h;subst h;obtain ⟨e,h1,h2,rfl⟩:=hi;have:=hb.1;rw[List.all_eq_true] at this;have:=this e h1;rw[h2] at this
   simpa [Nat.blt_eq] using this
  | succ k =>
   have:=ih (b+1) k o hb.2 (by simpa using h) i hi;omega
theorem b1x {ops:List Oper} (hb:j2n ops 0=true) {D:Nat→Prop} (hD:∀j o,ops[j]? = some o→D j→∀m,asks o m→D m):∀j o,ops[j]? = some o→(∀m,asks o m→D m)→∀i,ordered (befs ops []) i j=true→i<j∧D i:=by
 intro j;induction j using Nat.strongRecOn with
 | _ j ih =>
  intro o ho hready i hi;obtain ⟨acc,h1,h2,h3⟩:=befs_get ops [] j o ho;simp only[List.length_nil,Nat.zero_add] at h1 h2 h3;rw[h1h] at hi;have hj:(befs ops []).getD j 0=j2m acc o:=by rw[List.getD_eq_getElem?_getD,h1];rfl
  rw[hj,p2c] at hi;obtain ⟨m,hm,hi⟩:=hi;have hmj:=j1b ops 0 j o hb ho m hm;rw[Nat.zero_add] at hmj;rcases hi with rfl | hi
  ·exact ⟨hmj,hready _ hm⟩
  ·have hacc:acc.getD m 0=(befs ops []).getD m 0:=by rw[List.getD_eq_getElem?_getD,List.getD_eq_getElem?_getD,h3 m hmj]
   rw[hacc,←h1h] at hi;have hlt:m<ops.length:=by
    have:j<ops.length:=by
     rcases Nat.lt_or_ge j ops.length with q | q
     ·exact q
     ·rw[List.getElem?_eq_none q] at ho;cases ho
    omega
   have hom:ops[m]? = some ops[m]:=List.getElem?_eq_getElem hlt;obtain ⟨q1,q2⟩:=ih m hmj _ hom (hD m _ hom (hready m hm)) i hi;exact ⟨by omega,q2⟩
theorem m0z:∀(ops:List Oper) (s b i:Nat),f0k ops s b=some i→b≤i∧∃o,ops[i-b]? = some o∧o.dst=some s:=by
 intro ops;induction ops with
 | nil=>intro s b i h;cases h
 | cons o r ih =>
  intro s b i h;simp only[f0k] at h;cases hd:o.dst with
  | none =>
   rw[hd] at h;obtain ⟨h1,o',h2,h3⟩:=ih s (b+1) i h;exact ⟨by omega,o',by rw[show i-b=(i-(b+1))+1 by omega];simpa using h2,h3⟩
  | some d =>
   rw[hd] at h;dsimp only at h;cases hb:Nat.beq d s with
   | true =>
    rw[hb] at h;simp at h;subst h;exact ⟨Nat.le_refl _,o,by simp,by rw[hd,Nat.eq_of_beq_eq_true hb]⟩
   | false =>
    rw[hb] at h;obtain ⟨h1,o',h2,h3⟩:=ih s (b+1) i h;exact ⟨by omega,o',by rw[show i-b=(i-(b+1))+1 by omega];simpa using h2,h3⟩
theorem j2q:∀(ops:List Oper) (s b j:Nat) (o:Oper),(ops.filterMap (·.dst)).Nodup→ops[j]? = some o→o.dst=some s→f0k ops s b=some (b+j):=by
 intro ops;induction ops with
 | nil=>intro s b j o _ h;simp at h
 | cons o' r ih =>
  intro s b j o hn h hd;simp only[f0k];cases j with
  | zero =>
   simp at h;subst h;rw[hd];simp
  | succ j =>
   simp only[List.getElem?_cons_succ] at h;have hmem:o∈r:=List.mem_of_getElem? h;cases hd':o'.dst with
   | none =>
    rw[List.filterMap_cons,hd'] at hn;dsimp only;rw[ih s (b+1) j o hn h hd];congr 1;omega
   | some d =>
    rw[List.filterMap_cons,hd',List.nodup_cons] at hn;have hne:d≠s:=fun e=>hn.1 (by rw[List.mem_filterMap];exact ⟨o,hmem,by rw[hd,e]⟩)
    have:Nat.beq d s=false:=by
     cases hb:Nat.beq d s with
     | false=>rfl
     | true=>exact absurd (Nat.eq_of_beq_eq_true hb) hne
    dsimp only;rw[this];simp only[cond_false];rw[ih s (b+1) j o hn.2 h hd];congr 1;omega
theorem look_all {ops:List Oper} {bs:List Nat}:∀(l:List Oper) (b k:Nat) (o:Oper),i1k ops bs l b=true→l[k]? = some o→∀s∈looks ops o,e2o ops bs (b+k) s=true:=by
 intro l;induction l with
 | nil=>intro b k o _ h;simp at h
 | cons o' r ih =>
  intro b k o hl h s hs;simp only[i1k,Bool.and_eq_true] at hl;cases k with
  | zero =>
   simp at h;subst h;have:=hl.1;rw[List.all_eq_true] at this;exact this s hs
  | succ k =>
   have:=ih (b+1) k o hl.2 (by simpa using h) s hs;rw[show b+(k+1)=b+1+k by omega];exact this
theorem look_ok {ops:List Oper} {bs:List Nat} {j s i:Nat} (h:e2o ops bs j s=true) (hw:f0k ops s 0=some i):i=j∨ordered bs i j=true∨ordered bs j i=true:=by
 unfold e2o at h;rw[hw] at h;simp only[Bool.or_eq_true] at h;rcases h with h | h
 ·exact .inl (Nat.eq_of_beq_eq_true h)
 ·exact .inr h
end Go.Flat
end
section
namespace Go.Flat
open Go.RowKit (Below)
abbrev Ent:=Option (V×Ups×List Nat×List Nat)
def Ent.val:Ent→V
 | none => .undef
 | some x=>x.1
def Ent.ups:Ent→Ups
 | none=>[]
 | some x=>x.2.1
def x1h (cx:Cx) (T:Nat→V):Operand→V
 | .tmp t=>T t
 | .const v=>f2g v
 | .global g=>match cx.glob g with | some x => .v false [.pin x.1 x.2 0] | none => .lost
 | .func f => .v false [.clo f .unit ()]
def u0r (ops:List Oper) (o:Oper) (T:Nat→V):Option Bool :=
 match o.guard with
 | none=>some true
 | some (j,want) =>
  match (ops[j]?).bind (·.dst) with
  | none=>none
  | some g =>
   match T g with
   | .v false [.val .bool b]=>some (bif b then want else !want)
   | .undef=>some false
   | _=>none
def putT (T:Nat→V) (dst:Option Nat) (x:V):Nat→V:=fun s=>if dst=some s then x else T s
section
variable {cx:Cx} {call:c0g cx} {fx:Hints} {R:Type}
def Trace (cx:Cx) (call:c0g cx) (fx:Hints) (all:List Oper):List Oper→(Nat→V)→Heap→List Ent→(Nat→V)→Heap→Prop
 | [],T,h,L,T',h'=>L=[]∧T'=T∧h'=h
 | o :: r, T, h, L, T', h' => ∃ e L', L = e :: L' ∧
     (match e with
      | none=>u0r all o T=some false
      | some (x,u,s1,s2)=>u0r all o T=some true∧evOp cx call fx o (x1h cx T) (restrict h (s1++s2)) (fun x u=>some (x,u))=some (x,u)∧(∀n∈a0k u,n∈s2∧n<h.length)) ∧
     Trace cx call fx all r (putT T o.dst e.val) (a0y h e.ups) L' T' h'
theorem guardK_T {ops:List Oper} {o:Oper} {st:St} {k:Bool→St→Option R} {r:R} (hk:p1e ops o st k=some r) :
  ∃run st',k run st'=some r∧u0r ops o (getT st.t)=some run∧st'.h=st.h∧getT st'.t=getT st.t:=by
 unfold p1e at hk;unfold u0r;cases hg:o.guard with
 | none=>rw[hg] at hk;exact ⟨true,st,hk,rfl,rfl,rfl⟩
 | some jw =>
  obtain ⟨j,want⟩:=jw;rw[hg] at hk;dsimp only at hk ⊢;cases hj:(ops[j]?).bind (·.dst) with
  | none=>rw[hj] at hk;cases hk
  | some g =>
   rw[hj] at hk;dsimp only at hk ⊢;split at hk
   ·rename_i b hb;have same:getT ((g,V.v false [Cell.val .bool b])::st.t)=getT st.t:=by
     funext s;simp only[getT];cases hbe:Nat.beq g s with
     | false=>rfl
     | true=>rw[←Nat.eq_of_beq_eq_true hbe,hb];rfl
    simp only[hb];cases b with
    | true=>exact ⟨want,_,hk,rfl,rfl,same⟩
    | false=>exact ⟨!want,_,hk,rfl,rfl,same⟩
   ·rename_i hb;simp only[hb];exact ⟨false,st,hk,rfl,rfl,rfl⟩
   ·cases hk
theorem opnd_T (st:St):opnd cx st=x1h cx (getT st.t):=by
 funext x;cases x<;>rfl
def trOf:List Ent→Nat→Tr→Tr
 | [],_,tr=>tr
 | none::L,i,tr=>trOf L (i+1) tr
 | some (_,_,s1,s2)::L,i,tr=>trOf L (i+1) (a1k i s1 s2 tr)
theorem g2c (o:Oper) (ρ:Operand→V) (h:Heap) {k:List Nat→List Nat→Option R} {r:R} (hk:j2v cx fx o ρ h k=some r):∃s1 s2,k s1 s2=some r:=by
 have force:∀(ns:List Nat) {kk:List Nat→Option R},d1n ns kk=some r→∃ms,kk ms=some r:=by
  intro ns;induction ns with
  | nil=>intro kk h;exact ⟨_,h⟩
  | cons n rest ih=>intro kk h;obtain ⟨ms,h⟩:=ih h;exact ⟨_,h⟩
 have close:∀(d:Nat) (ns:List Nat) {kk:List Nat→Option R},y1o h d ns kk=some r→∃ms,kk ms=some r:=by
  intro d;induction d with
  | zero=>intro ns kk hh;exact force ns hh
  | succ d ih =>
   intro ns kk hh;obtain ⟨ms,hh⟩:=force ns hh;obtain ⟨ms',hh⟩:=ih _ hh;exact ⟨_,hh⟩
 have wr:∀ns,y1o h 4 ns (fun ns=>d1n (fresh cx fx o) fun fr=>k [] (ns++fr))=some r→∃s1 s2,k s1 s2=some r:=by
  intro ns hh;obtain ⟨ms,hh⟩:=close 4 ns hh;obtain ⟨fr,hh⟩:=force _ hh;exact ⟨_,_,hh⟩
 have rd:∀ns,y1o h 4 ns (fun ns=>k ns [])=some r→∃s1 s2,k s1 s2=some r:=by
  intro ns hh;obtain ⟨ms,hh⟩:=close 4 ns hh;exact ⟨_,_,hh⟩
 unfold j2v at hk;dsimp only at hk;split at hk
 all_goals (try exact ⟨_,_,hk⟩)
 all_goals (try exact rd _ hk)
 all_goals (try exact wr _ hk)
 all_goals (try (obtain ⟨fr,hk⟩:=force _ hk;exact ⟨_,_,hk⟩))
 ·split at hk
  ·exact wr _ hk
  ·exact rd _ hk
 ·split at hk
  ·split at hk
   ·obtain ⟨ms,hk⟩:=close 4 _ hk;obtain ⟨fr,hk⟩:=force _ hk;exact ⟨_,_,hk⟩
   ·exact wr _ hk
  ·exact wr _ hk
theorem y1h (all:List Oper):∀(ops:List Oper) (i:Nat) (st:St) (tr:Tr) (k:St→Tr→Option R) (r:R),y1i cx call fx all ops i st tr k=some r →
  ∃L st',k st' (trOf L i tr)=some r∧Trace cx call fx all ops (getT st.t) st.h L (getT st'.t) st'.h:=by
 intro ops;induction ops with
 | nil=>intro i st tr k r hk;exact ⟨[],st,hk,rfl,rfl,rfl⟩
 | cons o rest ih =>
  intro i st tr k r hk;simp only[y1i] at hk;obtain ⟨run,st1,hk,hg,hh,ht⟩:=guardK_T hk;cases run with
  | true =>
   dsimp only at hk;obtain ⟨s1,s2,hk⟩:=g2c _ _ _ hk;rw[f2c] at hk;cases hev:evOp cx call fx o (opnd cx st1) (restrict st1.h (s1++s2)) (fun x u=>some (x,u)) with
   | none=>rw[hev] at hk;cases hk
   | some p =>
    obtain ⟨x,u⟩:=p;rw[hev] at hk;simp only[Option.bind_some] at hk;split at hk
    case h_2=>cases hk
    rename_i hall;obtain ⟨L,st',h1,h2⟩:=ih _ _ _ _ r hk;refine ⟨some (x,u,s1,s2)::L,st',h1,some (x,u,s1,s2),L,rfl,⟨hg,?_,fun n hn => ?_⟩,?_⟩
    ·rw[←ht,←hh,←opnd_T];exact hev
    ·simp only[a0k,List.mem_map] at hn;obtain ⟨y,hy,rfl⟩:=hn;rw[List.all_eq_true] at hall;have:=hall y hy;simp only[Bool.and_eq_true] at this;exact ⟨e0y.1 this.1,by rw[←hh];simpa [Nat.blt_eq] using this.2⟩
    ·have:putT (getT st.t) o.dst (Ent.val (some (x,u,s1,s2)))=getT (putV st1.t o.dst x):=by
      funext s;rw[a1c,ht];rfl
     rw[this,←hh];exact h2
  | false =>
   dsimp only at hk;obtain ⟨L,st',h1,h2⟩:=ih _ _ _ _ r hk;refine ⟨none::L,st',h1,none,L,rfl,hg,?_⟩;have:putT (getT st.t) o.dst (Ent.val none)=getT (putV st1.t o.dst .undef):=by
    funext s;rw[a1c,ht];rfl
   rw[this,←hh];exact h2
theorem p1v:∀(L:List Ent) (i:Nat) (tr:Tr),trOf L i tr=trOf L i []++tr:=by
 intro L;induction L with
 | nil=>intro i tr;rfl
 | cons e L ih =>
  intro i tr;cases e with
  | none=>exact ih _ _
  | some x =>
   obtain ⟨x,u,s1,s2⟩:=x;simp only[trOf];rw[ih,ih (i+1) (a1k i s1 s2 [])];rw[List.append_assoc];congr 1;unfold a1k;split<;>simp
theorem trOf_mem:∀(L:List Ent) (i j:Nat) (x:V) (u:Ups) (s1 s2:List Nat),L[j]? = some (some (x,u,s1,s2))→¬(s1=[]∧s2=[])→(i+j,s1,s2)∈trOf L i []:=by
 intro L;induction L with
 | nil=>intro i j x u s1 s2 h;simp at h
 | cons e L ih =>
  intro i j x u s1 s2 h hne;cases j with
  | zero =>
   simp at h;subst h;simp only[trOf];rw[p1v];have:a1k i s1 s2 []=[(i,s1,s2)]:=by
    unfold a1k;split
    ·exact absurd ⟨rfl,rfl⟩ hne
    ·rfl
   rw[this];simp
  | succ j =>
   simp only[List.getElem?_cons_succ] at h;have:=ih (i+1) j x u s1 s2 h hne;cases e with
   | none=>simp only[trOf];rw[show i+(j+1)=i+1+j by omega];exact this
   | some y =>
    obtain ⟨y,v,t1,t2⟩:=y;simp only[trOf];rw[p1v,show i+(j+1)=i+1+j by omega];exact List.mem_append_left _ this
theorem y1p (b:List Nat×List Nat):clash ([],[]) b=false∧clash b ([],[])=false:=by
 have h1:∀l:List Nat,meet [] l=false:=fun l=>rfl
 have h2:∀l:List Nat,meet l []=false:=by
  intro l;induction l with
  | nil=>rfl
  | cons n r ih=>simp[meet,hasN]
 simp[clash,h1,h2]
theorem p2g {bs:List Nat}:∀ {tr:Tr},c1t bs tr=true→∀(pre post:Tr) (x y:Nat×List Nat×List Nat),tr=pre++x::post→y∈post→clash x.2 y.2=true→ordered bs x.1 y.1=true:=by
 intro tr;induction tr with
 | nil=>intro _ pre post x y h;simp at h
 | cons z r ih =>
  intro h pre post x y he hy hc;obtain ⟨zi,zs⟩:=z;simp only[c1t,Bool.and_eq_true] at h;cases pre with
  | nil =>
   simp at he;obtain ⟨rfl,rfl⟩:=he;have:=h.1;rw[List.all_eq_true] at this;have:=this y hy;simp only[Bool.or_eq_true,Bool.not_eq_true'] at this;rcases this with q | q
   ·simp only at hc;rw[hc] at q;cases q
   ·exact q
  | cons w pre =>
   simp at he;exact ih h.2 pre post x y he.2 hy hc
theorem g2b:∀(L:List Ent) (b i j:Nat) (x y:V) (u v:Ups) (s1 s2 t1 t2:List Nat),i<j→L[i]? = some (some (x,u,s1,s2))→L[j]? = some (some (y,v,t1,t2))→¬(s1=[]∧s2=[])→¬(t1=[]∧t2=[]) →
  ∃pre post,(trOf L b []).reverse=pre++(b+i,s1,s2)::post∧(b+j,t1,t2)∈post:=by
 intro L;induction L with
 | nil=>intro b i j x y u v s1 s2 t1 t2 _ h;simp at h
 | cons e L ih =>
  intro b i j x y u v s1 s2 t1 t2 hij h1 h2 hs ht;obtain ⟨j,rfl⟩:∃j',j=j'+1:=⟨j-1,by omega⟩;simp only[List.getElem?_cons_succ] at h2;cases i with
  | zero =>
   simp at h1;subst h1;simp only[trOf];rw[p1v];have:a1k b s1 s2 []=[(b,s1,s2)]:=by
    unfold a1k;split
    ·exact absurd ⟨rfl,rfl⟩ hs
    ·rfl
   rw[this,List.reverse_append];refine ⟨[],(trOf L (b+1) []).reverse,rfl,?_⟩;rw[List.mem_reverse,show b+(j+1)=b+1+j by omega];exact trOf_mem L (b+1) j y v t1 t2 h2 ht
  | succ i =>
   simp only[List.getElem?_cons_succ] at h1;obtain ⟨pre,post,k1,k2⟩:=ih (b+1) i j x y u v s1 s2 t1 t2 (by omega) h1 h2 hs ht;have e1:b+(i+1)=b+1+i:=by omega
   have e2:b+(j+1)=b+1+j:=by omega
   rw[e1,e2];cases e with
   | none=>exact ⟨pre,post,k1,k2⟩
   | some z =>
    obtain ⟨z,w,r1,r2⟩:=z;simp only[trOf];rw[p1v,List.reverse_append,k1];exact ⟨(a1k b r1 r2 []).reverse++pre,post,by rw[List.append_assoc],k2⟩
theorem u1b {bs:List Nat} {L:List Ent} (h:c1t bs (trOf L 0 []).reverse=true) {i j:Nat} (hij:i<j) {x y:V} {u v:Ups} {s1 s2 t1 t2:List Nat} (h1:L[i]? = some (some (x,u,s1,s2))) (h2:L[j]? = some (some (y,v,t1,t2)))
  (hc:clash (s1,s2) (t1,t2)=true):ordered bs i j=true:=by
 by_cases hs:s1=[]∧s2=[]
 ·obtain ⟨rfl,rfl⟩:=hs;rw[(y1p _).1] at hc;cases hc
 by_cases ht:t1=[]∧t2=[]
 ·obtain ⟨rfl,rfl⟩:=ht;rw[(y1p _).2] at hc;cases hc
 obtain ⟨pre,post,k1,k2⟩:=g2b L 0 i j x y u v s1 s2 t1 t2 hij h1 h2 hs ht;simp only[Nat.zero_add] at k1 k2;exact p2g h pre post _ _ k1 k2 hc
theorem meet_iff {a b:List Nat}:meet a b=true↔∃n,n∈a∧n∈b:=by
 simp only[meet,List.any_eq_true,e0y]
theorem i1w {s1 s2 t1 t2:List Nat}:clash (s1,s2) (t1,t2)=true↔(∃n,n∈s2∧n∈t1++t2)∨∃n,n∈t2∧n∈s1:=by
 simp only[clash,Bool.or_eq_true,meet_iff]
end
end Go.Flat
end
section
namespace Go.Flat
open Go.RowKit (Below)
def ent (L:List Ent) (i:Nat):Ent:=(L[i]?).getD none
def TD (ops:List Oper) (L:List Ent) (T0:Nat→V) (D:Nat→Bool):Nat→V:=fun s =>
 match f0k ops s 0 with
 | some i=>if D i=true then (ent L i).val else T0 s
 | none=>T0 s
def HD (L:List Ent) (h0:Heap) (D:Nat→Bool):Nat→Heap
 | 0=>h0
 | n+1=>if D n=true then a0y (HD L h0 D n) (ent L n).ups else HD L h0 D n
theorem r0b (L:List Ent) (h0:Heap) (D:Nat→Bool):∀n,(HD L h0 D n).length=h0.length:=by
 intro n;induction n with
 | zero=>rfl
 | succ n ih=>simp only[HD];split<;>simp[b0p,ih]
theorem HD_get {L:List Ent} {h0:Heap} {D D':Nat→Bool} {m:Nat}:∀n,(∀i,i<n→m∈a0k (ent L i).ups→D i=D' i)→(HD L h0 D n)[m]? = (HD L h0 D' n)[m]? := by
 intro n;induction n with
 | zero=>intro _;rfl
 | succ n ih =>
  intro h;have ih:=ih fun i hi=>h i (by omega)
  simp only[HD];by_cases hm:m∈a0k (ent L n).ups
  ·have e:=h n (by omega) hm;rw[←e];split
   ·exact k0g _ _ _ m hm (by rw[r0b,r0b])
   ·exact ih
  ·have k:∀(E:Nat→Bool),(if E n=true then a0y (HD L h0 E n) (ent L n).ups else HD L h0 E n)[m]? = (HD L h0 E n)[m]? := by
    intro E;split
    ·exact b0q _ _ m hm
    ·rfl
   rw[k D,k D'];exact ih
theorem u1d {L:List Ent} {h0:Heap} {D D':Nat→Bool}:∀n,(∀i,i<n→D i=D' i)→HD L h0 D n=HD L h0 D' n:=by
 intro n h;apply List.ext_getElem?;intro m;exact HD_get n fun i hi _=>h i hi
theorem z1z (h:Heap) (u v:Ups) (hd:∀n,n∈a0k u→n ∉ a0k v):a0y (a0y h u) v=a0y (a0y h v) u:=by
 apply List.ext_getElem?;intro n;by_cases h1:n∈a0k u
 ·rw[b0q v _ n (hd n h1)];exact k0g u _ _ n h1 (by rw[b0p])
 ·rw[b0q u (a0y h v) n h1];by_cases h2:n∈a0k v
  ·exact k0g v _ _ n h2 (by rw[b0p])
  ·rw[b0q v _ n h2,b0q v _ n h2,b0q u _ n h1]
def addD (D:Nat→Bool) (j:Nat):Nat→Bool:=fun i=>D i||Nat.beq i j
theorem j1i (D:Nat→Bool) (j:Nat):addD D j j=true:=by simp[addD]
theorem r0a (D:Nat→Bool) (j i:Nat) (h:i≠j):addD D j i=D i:=by
 have:Nat.beq i j=false:=by
  cases hb:Nat.beq i j with
  | false=>rfl
  | true=>exact absurd (Nat.eq_of_beq_eq_true hb) h
 simp[addD,this]
theorem HD_put {L:List Ent} {h0:Heap} {D:Nat→Bool} {j:Nat} (hj:D j=false):∀n,j<n→(∀i,j<i→i<n→D i=true→∀m,m∈a0k (ent L j).ups→m ∉ a0k (ent L i).ups) →
  HD L h0 (addD D j) n=a0y (HD L h0 D n) (ent L j).ups:=by
 intro n;induction n with
 | zero=>intro h;omega
 | succ n ih =>
  intro hlt hd;simp only[HD];by_cases e:j=n
  ·subst e;rw[j1i,if_pos rfl,hj,if_neg (by simp),u1d (D:=addD D j) (D':=D) j fun i hi=>r0a D j i (by omega)]
  ·have hjn:j<n:=by omega
   rw[r0a D j n (fun q=>e q.symm),ih hjn fun i h1 h2=>hd i h1 (by omega)];split
   ·rename_i hDn;exact z1z _ _ _ (hd n hjn (by omega) hDn)
   ·rfl
theorem TD_put {ops:List Oper} {L:List Ent} {T0:Nat→V} {D:Nat→Bool} {j:Nat} {o:Oper} (hn:(ops.filterMap (·.dst)).Nodup) (ho:ops[j]? = some o) (hj:D j=false) :
  TD ops L T0 (addD D j)=putT (TD ops L T0 D) o.dst (ent L j).val:=by
 funext s;unfold putT;by_cases hd:o.dst=some s
 ·have hw:=j2q ops s 0 j o hn ho hd;rw[Nat.zero_add] at hw;rw[if_pos hd];simp only[TD,hw,j1i,if_true]
 ·rw[if_neg hd];unfold TD;cases hw:f0k ops s 0 with
  | none=>rfl
  | some i =>
   obtain ⟨_,o',k1,k2⟩:=m0z ops s 0 i hw;rw[Nat.sub_zero] at k1;have hne:i≠j:=fun e=>by
    subst e;rw[ho] at k1;injection k1 with k1;subst k1;exact hd k2
   simp only[r0a D j i hne]
def upto (j:Nat):Nat→Bool:=fun i=>Nat.blt i j
theorem upto_succ (j:Nat):upto (j+1)=addD (upto j) j:=by
 funext i;simp only[upto,addD];rw[Bool.eq_iff_iff];simp[Nat.blt_eq,Nat.beq_eq];omega
theorem y0d (j:Nat):upto j j=false:=by
 cases h:upto j j with
 | false=>rfl
 | true=>simp[upto,Nat.blt_eq] at h
theorem k0p {j i:Nat}:upto j i=true↔i<j:=by simp[upto,Nat.blt_eq]
section
variable {cx:Cx} {call:c0g cx} {fx:Hints} {R:Type}
def p2r (cx:Cx) (call:c0g cx) (fx:Hints) (all:List Oper) (T0:Nat→V) (h0:Heap) (L:List Ent) (j:Nat) (o:Oper):Prop :=
 match ent L j with
 | none=>u0r all o (TD all L T0 (upto j))=some false
 | some (x,u,s1,s2)=>u0r all o (TD all L T0 (upto j))=some true∧evOp cx call fx o (x1h cx (TD all L T0 (upto j))) (restrict (HD L h0 (upto j) all.length) (s1++s2)) (fun x u=>some (x,u))=some (x,u) ∧
   (∀n∈a0k u,n∈s2∧n<h0.length)
theorem g2a {all:List Oper} {T0:Nat→V} {h0:Heap} {L:List Ent} {T':Nat→V} {h':Heap} (hn:(all.filterMap (·.dst)).Nodup):∀(r:List Oper) (j:Nat) (L':List Ent) (T:Nat→V) (h:Heap),
  all.drop j=r→L.drop j=L'→T=TD all L T0 (upto j)→h=HD L h0 (upto j) all.length→Trace cx call fx all r T h L' T' h' →
   (∀i o,j≤i→all[i]? = some o→p2r cx call fx all T0 h0 L i o)∧T'=TD all L T0 (upto all.length)∧h'=HD L h0 (upto all.length) all.length:=by
 intro r;induction r with
 | nil =>
  intro j L' T h hr hL hT hh htr;obtain ⟨_,rfl,rfl⟩:=htr;have hlen:all.length≤j:=by
   have:=congrArg List.length hr;simp at this;omega
  have e:∀i,i<all.length→upto j i=upto all.length i:=by
   intro i hi;rw[k0p.2 hi,k0p.2 (by omega)]
  refine ⟨fun i o hi ho => ?_,?_,?_⟩
  ·rw[List.getElem?_eq_none (by omega)] at ho;cases ho
  ·rw[hT];funext s;unfold TD;cases hw:f0k all s 0 with
   | none=>rfl
   | some i =>
    obtain ⟨_,o',k1,_⟩:=m0z all s 0 i hw;rw[Nat.sub_zero] at k1;have hi:i<all.length:=by
     rcases Nat.lt_or_ge i all.length with q | q
     ·exact q
     ·rw[List.getElem?_eq_none q] at k1;cases k1
    simp only[e i hi]
  ·rw[hh];exact u1d _ e
 | cons o r ih =>
  intro j L' T h hr hL hT hh htr;obtain ⟨e,L2,rfl,he,htr⟩:=htr;have ho:all[j]? = some o:=by
   have:(all.drop j)[0]? = some o:=by rw[hr];rfl
   rw[List.getElem?_drop] at this
   simpa using this
  have hjl:j<all.length:=by
   rcases Nat.lt_or_ge j all.length with q | q
   ·exact q
   ·rw[List.getElem?_eq_none q] at ho;cases ho
  have hent:ent L j=e:=by
   have:(L.drop j)[0]? = some e:=by rw[hL];rfl
   rw[List.getElem?_drop] at this;unfold ent;rw[show j=j+0 from rfl,this];rfl
  have hr':all.drop (j+1)=r:=by rw[←List.tail_drop,hr];rfl
  have hL':L.drop (j+1)=L2:=by rw[←List.tail_drop,hL];rfl
  obtain ⟨k1,k2,k3⟩:=ih (j+1) L2 _ _ hr' hL'
   (by rw[hT,upto_succ,TD_put hn ho (y0d j),hent])
   (by rw[hh,upto_succ,HD_put (y0d j) all.length hjl (fun i h1 _ h3=>by rw[k0p] at h3;omega),hent]) htr
  refine ⟨fun i o' hi ho' => ?_,k2,k3⟩;by_cases hij:i=j
  ·subst hij;rw[ho] at ho';injection ho' with ho';subst ho';unfold p2r;rw[hent];cases e with
   | none=>rw[←hT];exact he
   | some x =>
    obtain ⟨x,u,s1,s2⟩:=x;rw[←hT,←hh];exact ⟨he.1,he.2.1,fun n hn=>⟨(he.2.2 n hn).1,by have:=(he.2.2 n hn).2;rw[hh,r0b] at this;exact this⟩⟩
  ·exact k1 i o' (by omega) ho'
end
section
variable {cx:Cx} {call:c0g cx} {fx:Hints} {W0 W W':World} {F0 F F':Fz} {O0:List Nat} {E E':EnvM} {h:Heap} {a:Act} {nt:Slots} {st:St}
theorem a1w {ops:List Oper} {o:Oper} {T:Nat→V} {run:Bool} (ht:∀s,RdV cx.P W F E (T s) (a.tmps.getD s undef)) (hg:u0r ops o T=some run):Region.wanted o (yielded ops.toArray a.tmps)=run:=by
 unfold u0r at hg;cases hgu:o.guard with
 | none=>rw[hgu] at hg;injection hg with hg;subst hg;simp[Region.wanted,hgu]
 | some jw =>
  obtain ⟨j,want⟩:=jw;rw[hgu] at hg;dsimp only at hg;cases hj:(ops[j]?).bind (·.dst) with
  | none=>rw[hj] at hg;cases hg
  | some g =>
   rw[hj] at hg;dsimp only at hg;have hj':((ops.toArray)[j]?).bind (·.dst)=some g:=by simpa using hj
   have hv:=ht g;split at hg
   ·rename_i b hb;injection hg with hg;rw[hb] at hv;have hv:=o1d (x0g hv);simp only[Region.wanted,hgu,yielded,hj',Option.bind_some,hv];subst hg;cases b<;>cases want<;>rfl
   ·rename_i hb;injection hg with hg;subst hg;rw[hb] at hv;have hv:a.tmps.getD g undef=undef:=hv;simp only[Region.wanted,hgu,yielded,hj',Option.bind_some];rw[Array.getD_eq_getD_getElem?] at hv;cases hgt:a.tmps[g]? with
    | none=>cases want<;>rfl
    | some v =>
     rw[hgt] at hv;simp at hv;subst hv;cases want<;>rfl
   ·cases hg
def RelT (cx:Cx) (W0:World) (F0:Fz) (O0:List Nat) (nt:Slots) (T:Nat→V) (h:Heap) (a:Act) (W:World) (F:Fz) (E:EnvM):Prop :=
 ∃st:St,st.h=h∧getT st.t=T∧StRel cx W0 F0 O0 nt st a W F E
theorem StRel.drew (hs:StRel cx W0 F0 O0 nt st a W F E) {st':St} (h1:st'.h=st.h) (h2:getT st'.t=getT st.t):StRel cx W0 F0 O0 nt st' a { W with drawn:=W.drawn+1 } F E:=by
 have hl:Later W F { W with drawn:=W.drawn+1 } F:=⟨rfl,rfl,rfl,Nat.le_refl _,fun _ _=>rfl,fun _ hb=>hb⟩;refine ⟨by rw[h1];exact hs.hr.world hl (fun b _=>⟨rfl,fun h=>h⟩),hs.hF,fun s=>by rw[h2];exact (hs.t s).later hl (EnvLe.refl E),hs.later.trans hl,hs.frame,by rw[h1];exact hs.own,hs.fz,hs.size,hs.keep,hs.defers⟩
def s1d (s2:List Nat) (len:Nat) (u:Ups):Bool:=u.all fun y=>hasN s2 y.1&&Nat.blt y.1 len
theorem h1l {s2:List Nat} {len:Nat} {u:Ups}:s1d s2 len u=true↔∀n∈a0k u,n∈s2∧n<len:=by
 unfold s1d;rw[List.all_eq_true];constructor
 ·intro h n hn;simp only[a0k,List.mem_map] at hn;obtain ⟨y,hy,rfl⟩:=hn;have:=h y hy;simp only[Bool.and_eq_true] at this;exact ⟨e0y.1 this.1,by simpa [Nat.blt_eq] using this.2⟩
 ·intro h y hy;obtain ⟨k1,k2⟩:=h y.1 (by simp only[a0k,List.mem_map];exact ⟨y,hy,rfl⟩);simp only[Bool.and_eq_true];exact ⟨e0y.2 k1,by simpa [Nat.blt_eq] using k2⟩
structure Open (cx:Cx) (call:c0g cx) (fx:Hints) (ops:List Oper) (T0:Nat→V) (h0:Heap) (L:List Ent):Prop where
 nodup:(ops.filterMap (·.dst)).Nodup
 look:i1k ops (befs ops []) ops 0=true
 back:j2n ops 0=true
 ents:∀i o,ops[i]? = some o→p2r cx call fx ops T0 h0 L i o
 apart:c1t (befs ops []) (trOf L 0 []).reverse=true
theorem c2z {rd:Option Nat} {ops:List Oper} {T0:Nat→V} {h0:Heap} {L:List Ent} {Q:Exit→Act→World→Prop} (hc:CallSound cx call W0 F0) (tab:j0w cx) (hfn:FnOk cx call) (ho:Open cx call fx ops T0 h0 L) (hd:o2l nt.nt nt.K ops=true)
  (hQ:∀a W F E,RelT cx W0 F0 O0 nt (TD ops L T0 (upto ops.length)) (HD L h0 (upto ops.length) ops.length) a W F E→Q .normal a W) :
  ∀(fuel:Nat) (listed:Array Bool) (a:Act) (W:World) (F:Fz) (E:EnvM),listed.size=ops.length→((List.range ops.length).filter fun i => !listed.getD i true).length≤fuel →
   (∀j o,ops[j]? = some o→listed.getD j true=true→∀m,asks o m→listed.getD m true=true) →
   RelT cx W0 F0 O0 nt (TD ops L T0 (fun i=>listed.getD i true)) (HD L h0 (fun i=>listed.getD i true) ops.length) a W F E→wpAnyIn (Rnd rd) 0 cx.P .any ops.toArray Q fuel listed a W:=by
 have done:∀(listed:Array Bool) (a:Act) (W:World) (F:Fz) (E:EnvM),listed.size=ops.length→(∀i,i<ops.length→listed.getD i true=true) →
   RelT cx W0 F0 O0 nt (TD ops L T0 (fun i=>listed.getD i true)) (HD L h0 (fun i=>listed.getD i true) ops.length) a W F E→Q .normal a W:=by
  intro listed a W F E _ hall hrel;have e1:HD L h0 (fun i=>listed.getD i true) ops.length=HD L h0 (upto ops.length) ops.length:=u1d _ fun i hi=>by rw[hall i hi,k0p.2 hi]
  have e2:TD ops L T0 (fun i=>listed.getD i true)=TD ops L T0 (upto ops.length):=by
   funext s;unfold TD;cases hw:f0k ops s 0 with
   | none=>rfl
   | some i =>
    obtain ⟨_,o',k1,_⟩:=m0z ops s 0 i hw;rw[Nat.sub_zero] at k1;have hi:i<ops.length:=by
     rcases Nat.lt_or_ge i ops.length with q | q
     ·exact q
     ·rw[List.getElem?_eq_none q] at k1;cases k1
    simp only[hall i hi,k0p.2 hi]
  rw[e1,e2] at hrel;exact hQ a W F E hrel
 have readyNil:∀(listed:Array Bool),listed.size=ops.length→Region.ready .any ops.toArray listed=[]→∀i,i<ops.length→listed.getD i true=true:=by
  intro listed hsz hr i;induction i using Nat.strongRecOn with
  | _ i ih =>
   intro hi;cases hl:listed.getD i true with
   | true=>rfl
   | false =>
    exfalso;have hmem:i∈Region.ready .any ops.toArray listed:=by
     rw[mem_ready];have hoi:ops[i]? = some ops[i]:=List.getElem?_eq_getElem hi;refine ⟨hl,ops[i],by simp[hi],fun e he hbind => ?_⟩;have hlt:=j1b ops 0 i _ ho.back hoi e.on ⟨e,Array.mem_toList_iff.2 he,hbind,rfl⟩;have:=ih e.on (by omega) (by omega);have hes:e.on<listed.size:=by omega
     simp only[Array.getD_eq_getD_getElem?,Array.getElem?_eq_getElem hes,Option.getD_some] at this ⊢;exact this
    rw[hr] at hmem;cases hmem
 intro fuel;induction fuel with
 | zero =>
  intro listed a W F E hsz hcnt hclosed hrel;have hall:∀i,i<ops.length→listed.getD i true=true:=by
   intro i hi;cases hl:listed.getD i true with
   | true=>rfl
   | false =>
    have:i∈(List.range ops.length).filter fun i => !listed.getD i true:=by
     rw[List.mem_filter,List.mem_range,hl];exact ⟨hi,rfl⟩
    have h0:((List.range ops.length).filter fun i => !listed.getD i true)=[]:=List.eq_nil_of_length_eq_zero (by omega);rw[h0] at this;cases this
  refine ⟨?_,done listed a W F E hsz hall hrel⟩;cases hr:Region.ready .any ops.toArray listed with
  | nil=>rfl
  | cons i r =>
   exfalso;have hmem:i∈Region.ready .any ops.toArray listed:=by rw[hr];simp
   rw[mem_ready] at hmem;obtain ⟨h2,o,h1,_⟩:=hmem;have h1:i<ops.length:=by
    have:ops[i]? = some o:=by simpa using h1
    rcases Nat.lt_or_ge i ops.length with q | q
    ·exact q
    ·rw[List.getElem?_eq_none q] at this;cases this
   rw[hall i h1] at h2;cases h2
 | succ fuel ih =>
  intro listed a W F E hsz hcnt hclosed hrel;refine ⟨fun hr=>done listed a W F E hsz (readyNil listed hsz hr) hrel,fun j hj => ?_⟩;rw[mem_ready] at hj;obtain ⟨hnl,o,hoj,hready⟩:=hj;have hoj:ops[j]? = some o:=by simpa using hoj
  have hjl:j<ops.length:=by
   rcases Nat.lt_or_ge j ops.length with q | q
   ·exact q
   ·rw[List.getElem?_eq_none q] at hoj;cases hoj
  generalize hDe:(fun i=>listed.getD i true)=D at hrel;have hDi:∀i,listed.getD i true=D i:=fun i=>by rw[←hDe]
  have hDj:D j=false:=by rw[←hDi];exact hnl
  have hreadyD:∀m,asks o m→D m=true:=by
   rintro m ⟨e,he,hbind,rfl⟩;have:=hready e (Array.mem_toList_iff.1 he) hbind;have hlt:=j1b ops 0 j o ho.back hoj e.on ⟨e,he,hbind,rfl⟩;have hes:e.on<listed.size:=by omega
   rw[←hDi];simp only[Array.getD_eq_getD_getElem?,Array.getElem?_eq_getElem hes,Option.getD_some] at this ⊢;exact this
  have hclosedD:∀j o,ops[j]? = some o→D j=true→∀m,asks o m→D m=true:=fun j o h1 h2 m h3=>by
   rw[←hDi] at h2 ⊢;exact hclosed j o h1 h2 m h3
  have before:∀i,ordered (befs ops []) i j=true→i<j∧D i=true:=b1x ho.back (D:=fun i=>D i=true) hclosedD j o hoj hreadyD;have behind:∀i,i<ops.length→ordered (befs ops []) j i=true→j<i∧D i=false:=by
   intro i hi hord;have hoi:ops[i]? = some ops[i]:=List.getElem?_eq_getElem hi;have h1:=(b1x ho.back (D:=fun _=>True) (fun _ _ _ _ _ _=>trivial) i _ hoi (fun _ _=>trivial) j hord).1;refine ⟨h1,?_⟩;cases hDi':D i with
   | false=>rfl
   | true =>
    have:=(b1x ho.back (D:=fun i=>D i=true) hclosedD i _ hoi (hclosedD i _ hoi hDi') j hord).2;rw[hDj] at this;cases this
  have agree:∀s∈looks ops o,TD ops L T0 D s=TD ops L T0 (upto j) s:=by
   intro s hs;have hlk:=look_all ops 0 j o ho.look hoj s hs;rw[Nat.zero_add] at hlk;unfold TD;cases hw:f0k ops s 0 with
   | none=>rfl
   | some i =>
    obtain ⟨_,o',k1,_⟩:=m0z ops s 0 i hw;rw[Nat.sub_zero] at k1;have hi:i<ops.length:=by
     rcases Nat.lt_or_ge i ops.length with q | q
     ·exact q
     ·rw[List.getElem?_eq_none q] at k1;cases k1
    rcases look_ok hlk hw with rfl | h1 | h1
    ·simp only[hDj,y0d]
    ·obtain ⟨q1,q2⟩:=before i h1;simp only[q2,k0p.2 q1]
    ·obtain ⟨q1,q2⟩:=behind i hi h1;have:upto j i=false:=by
      cases hu:upto j i with
      | false=>rfl
      | true=>rw[k0p] at hu;omega
     simp only[q2,this]
  have hents:=ho.ents j o hoj;have entLt:∀i x,ent L i=some x→L[i]? = some (some x):=by
   intro i x hx;unfold ent at hx;cases hLi:L[i]? with
   | none=>rw[hLi] at hx;cases hx
   | some e=>rw[hLi] at hx;simp at hx;rw[hx]
  have upsIn:∀i,i<ops.length→∀m,m∈a0k (ent L i).ups→∃x u s1 s2,ent L i=some (x,u,s1,s2)∧m∈s2:=by
   intro i hi m hm;have he:=ho.ents i _ (List.getElem?_eq_getElem hi);unfold p2r at he;cases hx:ent L i with
   | none=>rw[hx] at hm;cases hm
   | some x =>
    obtain ⟨x,u,s1,s2⟩:=x;rw[hx] at he hm;exact ⟨x,u,s1,s2,rfl,(he.2.2 m hm).1⟩
  obtain ⟨st,hst1,hst2,hs⟩:=hrel;have hdst:∀d,o.dst=some d→nt.may d:=fun d e=>o2m (List.all_eq_true.1 hd o (List.mem_of_getElem? hoj)) d e
  have hsize':(listed.setIfInBounds j true).size=ops.length:=by simp[hsz]
  have hDnew:(fun i=>(listed.setIfInBounds j true).getD i true)=addD D j:=by
   funext i;by_cases e:i=j
   ·subst e;rw[j1i];have:i<listed.size:=by omega
    simp[Array.getD_eq_getD_getElem?,this]
   ·rw[r0a D j i e,←hDi];exact getD_set_ne true (fun q=>e q.symm)
  have hcnt':((List.range ops.length).filter fun i => !(listed.setIfInBounds j true).getD i true).length≤fuel:=by
   have e1:((List.range ops.length).filter fun i => !(listed.setIfInBounds j true).getD i true)=((List.range ops.length).filter fun i => !listed.getD i true).filter fun i => !Nat.beq i j:=by
    rw[List.filter_filter];apply List.filter_congr;intro i _;have:(listed.setIfInBounds j true).getD i true=addD D j i:=congrFun hDnew i;rw[this,hDi];simp only[addD,Bool.not_or];rw[Bool.and_comm]
   rw[e1];have hlt:(((List.range ops.length).filter fun i => !listed.getD i true).filter fun i => !Nat.beq i j).length<((List.range ops.length).filter fun i => !listed.getD i true).length:=by
    rw[List.length_filter_lt_length_iff_exists];exact ⟨j,by rw[List.mem_filter,List.mem_range,hnl];exact ⟨hjl,rfl⟩,by simp⟩
   omega
  have hclosed':∀i o',ops[i]? = some o'→(listed.setIfInBounds j true).getD i true=true→∀m,asks o' m→(listed.setIfInBounds j true).getD m true=true:=by
   intro i o' h1 h2 m h3;have g:∀i,(listed.setIfInBounds j true).getD i true=addD D j i:=fun i=>congrFun hDnew i
   rw[g] at h2 ⊢;by_cases e:i=j
   ·subst e;rw[hoj] at h1;injection h1 with h1;subst h1;simp[addD,hreadyD m h3]
   ·rw[r0a D j i e] at h2;simp[addD,hclosedD i o' h1 h2 m h3]
  have next:∀(a':Act) (W':World) (F':Fz) (E':EnvM),RelT cx W0 F0 O0 nt (putT (TD ops L T0 D) o.dst (ent L j).val) (a0y (HD L h0 D ops.length) (ent L j).ups) a' W' F' E' →
    wpAnyIn (Rnd rd) 0 cx.P .any ops.toArray Q fuel (listed.setIfInBounds j true) a' W':=by
   intro a' W' F' E' hr;refine ih _ a' W' F' E' hsize' hcnt' hclosed' ?_;rw[hDnew,TD_put ho.nodup hoj hDj,HD_put hDj ops.length hjl ?_]
   ·exact hr
   ·intro i h1 h2 h3 m hm hm';obtain ⟨x,u,s1,s2,e1,m1⟩:=upsIn j hjl m hm;obtain ⟨y,v,t1,t2,e2,m2⟩:=upsIn i h2 m hm';have hcl:clash (s1,s2) (t1,t2)=true:=i1w.2 (.inl ⟨m,m1,by simp[m2]⟩);have:=(behind i h2 (u1b ho.apart h1 (entLt _ _ e1) (entLt _ _ e2) hcl)).2;rw[h3] at this;cases this
  have hoja:(ops.toArray)[j]? = some o:=by simpa using hoj
  have guardEq:u0r ops o (TD ops L T0 D)=u0r ops o (TD ops L T0 (upto j)):=by
   unfold u0r;cases hgu:o.guard with
   | none=>rfl
   | some jw =>
    obtain ⟨g,want⟩:=jw;dsimp only;cases hgj:(ops[g]?).bind (·.dst) with
    | none=>rfl
    | some s =>
     dsimp only;rw[agree s (by simp[looks,hgu,hgj])]
  have ht:∀s,RdV cx.P W F E (TD ops L T0 D s) (a.tmps.getD s undef):=fun s=>by rw[←hst2];exact hs.t s
  unfold wpOpIn;rw[hoja];dsimp only;unfold p2r at hents;cases hej:ent L j with
  | none =>
   rw[hej] at hents next;have hw:=a1w (cx:=cx) ht (by rw[guardEq];exact hents);rw[hw];simp only[Bool.false_eq_true,if_false];refine ⟨fun _ _=>trivial,next _ W F E ⟨{ st with t:=putV st.t o.dst .undef },by simp[hst1,Ent.ups,a0y],?_,hs.skip hdst⟩⟩;funext s;rw[a1c,hst2];rfl
  | some x =>
   obtain ⟨x,u,s1,s2⟩:=x;rw[hej] at hents next;obtain ⟨hg,hev,hnm⟩:=hents;have hw:=a1w (cx:=cx) ht (by rw[guardEq];exact hg);rw[hw];simp only[if_true];have hres:restrict (HD L h0 D ops.length) (s1++s2)=restrict (HD L h0 (upto j) ops.length) (s1++s2):=by
    apply List.ext_getElem?;intro m;rw[o0m,o0m];by_cases hm:m∈s1++s2
    ·rw[HD_get (D:=D) (D':=upto j) ops.length fun i hi hmi => ?_];obtain ⟨y,v,t1,t2,e2,m2⟩:=upsIn i hi m hmi;rcases Nat.lt_trichotomy i j with hij | hij | hij
     ·have hcl:clash (t1,t2) (s1,s2)=true:=i1w.2 (.inl ⟨m,m2,hm⟩);rw[(before i (u1b ho.apart hij (entLt _ _ e2) (entLt _ _ hej) hcl)).2,k0p.2 hij]
     ·subst hij;rw[hDj,y0d]
     ·have hcl:clash (s1,s2) (t1,t2)=true:=by
       rw[i1w];rcases List.mem_append.1 hm with q | q
       ·exact .inr ⟨m,m2,q⟩
       ·exact .inl ⟨m,q,by simp[m2]⟩
      rw[(behind i hi (u1b ho.apart hij (entLt _ _ hej) (entLt _ _ e2) hcl)).2];cases hu:upto j i with
      | false=>rfl
      | true=>rw[k0p] at hu;omega
    ·have:hasN (s1++s2) m=false:=by
      cases hh:hasN (s1++s2) m with
      | false=>rfl
      | true=>exact absurd (e0y.1 hh) hm
     rw[this];have key:∀(k:Heap),k.length=h0.length→(k[m]?).map (fun e=>if false=true then e else ((0,none):Nat×Option Blk))=if m<h0.length then some (0,none) else none:=by
      intro k hk;by_cases hlt:m<h0.length
      ·rw[List.getElem?_eq_getElem (by omega),if_pos hlt];rfl
      ·rw[List.getElem?_eq_none (by omega),if_neg hlt];rfl
     rw[key _ (r0b _ _ _ _),key _ (r0b _ _ _ _)]
   have hρ:∀y∈o.op.operands.toList,x1h cx (TD ops L T0 D) y=x1h cx (TD ops L T0 (upto j)) y:=by
    intro y hy;cases y with
    | tmp t =>
     exact agree t (by
      unfold looks;apply List.mem_append_left;rw[List.mem_filterMap]
      exact ⟨.tmp t,hy,rfl⟩)
    | _=>rfl
   have hev2:evOp cx call fx o (x1h cx (TD ops L T0 D)) (restrict (HD L h0 D ops.length) (s1++s2)) (fun x u=>some (x,u))=some (x,u):=by
    rw[hres,j2d o _ hρ];exact hev
   have hev3:evOp cx call fx o (x1h cx (TD ops L T0 D)) (restrict (HD L h0 D ops.length) (s1++s2)) (fun x u=>if s1d s2 h0.length u=true then some (x,u) else none)=some (x,u):=by
    rw[f2c,hev2];simp only[Option.bind_some];rw[if_pos (h1l.2 hnm)]
   have hctx:Ctx cx call W F E (· ∈ s1++s2) (restrict (HD L h0 D ops.length) (s1++s2)) (x1h cx (TD ops L T0 D)) a:=by
    refine ⟨hc.later hs.later,tab,?_,fun y => ?_,hs.hF⟩
    ·rw[←hst1];exact hs.hr.restrict
    ·rw[←hst2,←opnd_T];exact r1y (hc.glob.later hs.later) hs.t y
   obtain ⟨x',u',hk',hok⟩:=p1k (fx:=fx) hctx hfn (k:=fun x u=>if s1d s2 h0.length u=true then some (x,u) else none) (by
    intro x' u' r' hk n hn;dsimp only at hk;split at hk
    case isFalse=>cases hk
    rename_i hin;obtain ⟨q1,q2⟩:=h1l.1 hin n hn
    exact ⟨by simp[q1],by rw[t0d,r0b];exact q2⟩) hev3
   dsimp only at hk';split at hk'
   case isFalse=>cases hk'
   simp only[Option.some.injEq,Prod.mk.injEq] at hk';obtain ⟨rfl,rfl⟩:=hk';refine hok rd _ _ (f2b hev3 rd _) fun v W' F' E' hp hv => ?_
   have hpw:=OpPost.widen (by rw[←hst1];exact hs.hr) hp (fun n hn=>by simp[(hnm n hn).1]);rw[←hst1] at hpw;refine next _ W' F' E' ⟨_,?_,?_,hs.step hdst hpw hv⟩
   ·rw[hst1];rfl
   ·funext s;rw[a1c,hst2];rfl
end
end Go.Flat
end
section
namespace Go.Flat
open Go.RowKit (Below)
section
variable {cx:Cx} {call:c0g cx} {fx:Hints} {W0 W W':World} {F0 F F':Fz} {O0:List Nat} {E E':EnvM} {h:Heap} {a:Act} {R:Type} {nt:Slots} {st:St}
theorem n1s {rd:Option Nat} {id:Nat} {ops:Array Oper} {draw:Bool} {Q:Exit→Act→World→Prop} {k:St→Option R} {r:R} (hc:CallSound cx call W0 F0) (tab:j0w cx) (hfn:FnOk cx call) (hm:cx.P.follows .mixedOrders=true)
  (hd:o2l nt.nt nt.K ops.toList=true) (hs:StRel cx W0 F0 O0 nt st a W F E) (hk:t1e cx call fx ops.toList draw st k=some r)
  (hQ:∀st' a' W' F' E',k st'=some r→StRel cx W0 F0 O0 nt st' a' W' F' E'→Q .normal a' W'):(Code.region id ops draw).wpIn (Rnd rd) 0 cx.P Q a W:=by
 unfold t1e at hk;cases draw with
 | false =>
  dsimp only at hk;apply wpIn_region;have:=c2w (W0:=W0) (F0:=F0) (O0:=O0) (nt:=nt) hc tab hfn ops.toList rd Q ops.toList 0 st a W F E k r (by simp) hd hs hk hQ;rw[List.range_eq_range']
  simpa using this
 | true =>
  dsimp only at hk;split at hk
  case isFalse=>cases hk
  rename_i hap;simp only[y1k,Bool.and_eq_true] at hap;obtain ⟨h1,h2,h3⟩:=hap;obtain ⟨L,st',hk',htr⟩:=y1h ops.toList ops.toList 0 st [] _ r hk;split at hk'
  case isFalse=>cases hk'
  rename_i hapt;have hnd:=q0q.1 h1;have hz:∀i,upto 0 i=false:=fun i=>by
   cases hu:upto 0 i with
   | false=>rfl
   | true=>rw[k0p] at hu;omega
  have hT0:TD ops.toList L (getT st.t) (upto 0)=getT st.t:=by
   funext s;unfold TD;cases f0k ops.toList s 0 with
   | none=>rfl
   | some i=>simp only[hz i];rfl
  have hH0:∀(D:Nat→Bool) (n:Nat),(∀i,i<n→D i=false)→HD L st.h D n=st.h:=by
   intro D n;induction n with
   | zero=>intro _;rfl
   | succ n ih =>
    intro hD;simp only[HD,hD n (by omega),Bool.false_eq_true,if_false];exact ih fun i hi=>hD i (by omega)
  obtain ⟨k1,k2,k3⟩:=g2a (L:=L) (T0:=getT st.t) (h0:=st.h) hnd ops.toList 0 L _ _ (by simp) (by simp) hT0.symm (hH0 _ _ fun i _=>hz i).symm htr;apply wpIn_region_any hm;refine c2z (W0:=W0) (F0:=F0) (O0:=O0) (nt:=nt) (L:=L) (T0:=getT st.t) (h0:=st.h) hc tab hfn ⟨hnd,h2,h3,fun i o ho=>k1 i o (Nat.zero_le _) ho,hapt⟩ hd (fun a' W' F' E' hr => ?_)
   ops.size _ a _ F E (by simp) ?_ ?_ ?_
  ·obtain ⟨st2,e1,e2,hs2⟩:=hr;rw[←k3] at e1;rw[←k2] at e2;exact hQ st' a' W' F' E' hk' (hs2.guard e1.symm (fun s=>by rw[e2]))
  ·have:((List.range ops.toList.length).filter fun i => !(Array.replicate ops.size false).getD i true).length≤(List.range ops.toList.length).length:=List.length_filter_le _ _
   simpa using this
  ·intro j o hj hl;exfalso;have hlt:j<ops.size:=by
    rcases Nat.lt_or_ge j ops.size with q | q
    ·exact q
    ·rw[List.getElem?_eq_none (by simpa using q)] at hj;cases hj
   simp[Array.getD_eq_getD_getElem?,hlt] at hl
  ·have hf:∀i,i<ops.toList.length→(Array.replicate ops.size false).getD i true=false:=by
    intro i hi;have:i<ops.size:=by simpa using hi
    simp[Array.getD_eq_getD_getElem?,this]
   refine ⟨st,(hH0 _ _ hf).symm,?_,hs.drew rfl rfl⟩;funext s;unfold TD;cases hw:f0k ops.toList s 0 with
   | none=>rfl
   | some i =>
    obtain ⟨_,o',q1,_⟩:=m0z ops.toList s 0 i hw;rw[Nat.sub_zero] at q1;have hi:i<ops.toList.length:=by
     rcases Nat.lt_or_ge i ops.toList.length with q | q
     ·exact q
     ·rw[List.getElem?_eq_none q] at q1;cases q1
    simp only[hf i hi];rfl
def g0g (l:List (Nat×Ty)) (a:Act):List Value:=l.map fun p=>a.tmps.getD p.1 undef
structure KeepRel (cx:Cx) (W0:World) (F0:Fz) (O0:List Nat) (nt:Slots) (l:List (Nat×Ty)) (x:El (e0e l)) (a:Act) (W:World) (F:Fz) (O:List Nat):Prop where
 hF:∀b,F b→b<W.heap.size
 later:Later W0 F0 W F
 frame:∀b,b<W0.heap.size→b ∉ O0→W.heap[b]? = W0.heap[b]?
 own:∀b∈O,b∈O0∨W0.heap.size≤b
 fz:∀b,F b→F0 b∨b∈O0∨W0.heap.size≤b
 size:a.tmps.size=nt.nt
 keep:∀i∈nt.K,a.tmps.getD i undef=nt.kv i
 defers:a.defers=[]
 forms:d0q (l.map (·.2)) (g0g l a)
 rd:RdB cx.P (e0e l) x W F O (cat (g0g l a))
 nodup:O.Nodup
 free:∀b∈O,¬F b
theorem x1f (hc:CallSound cx call W F) (hr:HR cx.P W F E (fun _=>True) st.h) (ht:∀s,RdV cx.P W F E (getT st.t s) (a.tmps.getD s undef)):∀(l:List (Nat×Ty)) (x:El (e0e l)) (ns:List Nat),
  q0p cx call st l=some (x,ns)→∃taken lent O,ns.Perm (taken++lent)∧d0q (l.map (·.2)) (g0g l a)∧RdB cx.P (e0e l) x W (a0t F st.h E lent) O (cat (g0g l a))∧Takes F st.h E taken O:=by
 intro l;induction l with
 | nil =>
  intro x ns hk;simp only[q0p,Option.some.injEq] at hk;obtain ⟨_,rfl⟩:=hk;exact ⟨[],[],[],List.Perm.refl _,trivial,rfl,Takes.nil⟩
 | cons p l ih =>
  obtain ⟨s,t⟩:=p;intro x ns hk;simp only[q0p] at hk;split at hk
  case h_2=>cases hk
  rename_i ag cs hg;split at hk
  case isFalse=>cases hk
  rename_i hag;have hv:=ht s;rw[hg] at hv;cases h1:p0j cx call st.h t cs with
  | none=>rw[h1] at hk;cases hk
  | some z =>
   rw[h1] at hk;simp only[Option.bind_some] at hk;cases h2:q0p cx call st l with
   | none=>rw[h2] at hk;cases hk
   | some q =>
    rw[h2] at hk;simp only[Option.map_some,Option.some.injEq] at hk;obtain ⟨rfl,rfl⟩:=hk;obtain ⟨O1,k1,k2,k3⟩:=b1v hc hr (x:=z.1) (taken:=z.2.1) (lent:=z.2.2) h1 hv.1;obtain ⟨t2,l2,O2,m0,m1,m2,m3⟩:=ih q.1 q.2 h2;have hw:(a.tmps.getD s undef).cells.size=width t:=by simpa using k3
    refine ⟨z.2.1++t2,z.2.2++l2,O1++O2,?_,⟨RdV1.formed hv hag hw,m1⟩,⟨O1,O2,rfl,RdB.congr t (fun j hj => ?_) (k1.later t (Later.same a0t.left) (fun _ _=>rfl)),?_⟩,k2.append hr m3⟩
    ·rw[List.append_assoc,List.append_assoc];exact List.Perm.append_left _ ((List.Perm.append_left _ m0).trans (List.perm_append_comm_assoc _ _ _))
    ·show cat (a.tmps.getD s undef::g0g l a) j=_;rw[k0t hw j hj,one,Array.getElem?_toList]
    ·show RdB cx.P (e0e l) q.1 W _ O2 (fun j=>cat (a.tmps.getD s undef::g0g l a) (width t+j));rw[m0m hw];exact m2.later (e0e l) (Later.same a0t.right) (fun _ _=>rfl)
theorem g1z (hc:CallSound cx call W0 F0) (hs:StRel cx W0 F0 O0 nt st a W F E) {l:List (Nat×Ty)} {x:El (e0e l)} (hk:h1e cx call st l=some x):∃F' O,KeepRel cx W0 F0 O0 nt l x a W F' O:=by
 unfold h1e at hk;split at hk
 case h_2=>cases hk
 rename_i x' ns hp;split at hk
 case isFalse=>cases hk
 rename_i hnd;injection hk with hk;subst hk;obtain ⟨taken,lent,O,k0,k1,k2,k3⟩:=x1f (hc.later hs.later) hs.hr hs.t l x' ns hp;have hnd':(taken++lent).Nodup:=(k0.nodup_iff).1 (q0q.1 hnd);rw[List.nodup_append] at hnd';refine ⟨a0t F st.h E lent,O,fun b hb=>a0t.lt hs.hr hs.hF hb,hs.later.trans (c0s lent),hs.frame,fun b hb => ?_,fun b hb => ?_,hs.size,hs.keep,hs.defers,k1,k2,k3.nodup hnd'.1,?_⟩
 ·obtain ⟨n,_,hat⟩:=k3.at_ b hb;exact hs.own b ⟨n,hat⟩
 ·rcases hb with hb | ⟨n,_,hat⟩
  ·exact hs.fz b hb
  ·exact .inr (hs.own b ⟨n,hat⟩)
 ·rintro b hb (hf | ⟨n,hn,hat⟩)
  ·exact k3.free b hb hf
  ·obtain ⟨m,hm,hat'⟩:=k3.at_ b hb;exact hnd'.2.2 m hm n hn (d0a hs.hr hat' hat)
theorem p1f {bs:List (Nat×Nat×Blk)} (hf:e2v h bs=true):(∀n∈c0c bs,n<h.length)∧(c0c bs).Nodup:=by
 simp only[e2v,Bool.and_eq_true] at hf;refine ⟨fun n hn => ?_,q0q.1 hf.2⟩;simp only[c0c,List.mem_map] at hn;obtain ⟨b,hb,rfl⟩:=hn;have:=List.all_eq_true.1 hf.1 b hb
 simpa [Nat.blt_eq] using this
theorem came_V {P:Program} {t:Ty} {cs:List Cell} {v:Value} {g:Get} (hf:formed t v) (hc:i0c P W F E t cs g) (hg:∀j,j<width t→g j=one v j):RdV P W F E (.v (agg t) cs) v:=by
 obtain ⟨vs,v1,v2,v3⟩:=hc;have hvs:vs=v.cells.toList:=by
  apply List.ext_getElem?;intro j;by_cases hj:j<width t
  ·rw[←v2 j hj,hg j hj,one,Array.getElem?_toList]
  ·have:=hf.2.2;rw[List.getElem?_eq_none (by omega),List.getElem?_eq_none (by simp;omega)]
 subst hvs;exact ⟨v3,hf.1,hf.2.1⟩
theorem j1k {P:Program}:∀(l:List (Nat×Ty)) (x:El (e0e l)) (t:List (Nat×V)) (h:Heap) (nm:Nat) (k:St→Option R) (r:R),r0g l x t h nm k=some r →
  ∀ {E:EnvM} {O:List Nat},HR P W F E (fun _=>True) h→d0q (l.map (·.2)) (g0g l a)→RdB P (e0e l) x W F O (cat (g0g l a))→O.Nodup→(∀b∈O,¬F b)→(∀b∈O,¬e0i h E b) →
   (∀s,RdV P W F E (getT t s) (a.tmps.getD s undef)) →
   ∃st' E',k st'=some r∧HR P W F E' (fun _=>True) st'.h∧(∀s,RdV P W F E' (getT st'.t s) (a.tmps.getD s undef))∧(∀b,e0i st'.h E' b→e0i h E b∨b∈O):=by
 intro l;induction l with
 | nil=>intro x t h nm k r hk E O hr _ _ _ _ _ ht;exact ⟨⟨t,h⟩,E,hk,hr,ht,fun b hb => .inl hb⟩
 | cons p l ih =>
  obtain ⟨s,ty⟩:=p;intro x t h nm k r hk E O hr hf hx hO hF hL ht;simp only[r0g,i0n] at hk;obtain ⟨hfr,hk⟩:=c0r hk;obtain ⟨f1,f2⟩:=p1f hfr;obtain ⟨O1,O2,rfl,x1,x2⟩:=hx;rw[List.nodup_append] at hO;have hf':formed ty (a.tmps.getD s undef)∧d0q (l.map (·.2)) (g0g l a):=hf;obtain ⟨E1,c1,cc1⟩:=u0y h ty x.1 [] nm hr x1 hO.1 (fun b hb=>hF b (by simp[hb])) (fun b hb=>hL b (by simp[hb])) (fun n hn=>⟨trivial,f1 n hn,b0l hr trivial (f1 n hn)⟩) f2;have hlive:∀b∈O2,¬e0i (e0o h (b0i h ty x.1 [] nm).2.1) E1 b:=by
   rintro b hb ⟨m,hat⟩;rcases c1.at_ m b hat with ⟨_,k⟩ | ⟨_,k⟩
   ·exact hO.2.2 b k b hb rfl
   ·exact hL b (by simp[hb]) ⟨m,k⟩
  have hg:(fun j=>cat (g0g ((s,ty)::l) a) (width ty+j))=cat (g0g l a):=m0m (vs:=g0g l a) hf'.1.2.2;have x2':RdB P (e0e l) x.2 W F O2 (fun j=>cat (g0g ((s,ty)::l) a) (width ty+j)):=x2;rw[hg] at x2';obtain ⟨st',E2,m1,m2,m3,m4⟩:=ih x.2 _ _ _ k r hk c1.hr hf'.2 x2' hO.2.1 (fun b hb=>hF b (by simp[hb])) hlive (fun s'=>by
   simp only[getT];cases hbe:Nat.beq s s' with
   | false=>exact (ht s').later (Later.refl W F) c1.env
   | true =>
    have:=Nat.eq_of_beq_eq_true hbe;subst this
    exact came_V hf'.1 cc1 (k0t (vs:=g0g l a) hf'.1.2.2))
  refine ⟨st',E2,m1,m2,m3,fun b hb => ?_⟩;rcases m4 b hb with ⟨m,hat⟩ | q
  ·rcases c1.at_ m b hat with ⟨_,k⟩ | ⟨_,k⟩
   ·exact .inr (by simp[k])
   ·exact .inl ⟨m,k⟩
  ·exact .inr (by simp[q])
theorem o1z {P:Program} (fx:Hints):HR P W F ⟨fun _ _=>none,fun _=>0⟩ (fun _=>True) (s0c fx):=by
 have get:∀(n:Nat) (x:Nat×Option Blk),(s0c fx)[n]? = some x→x=(0,none):=by
  intro n x hx;unfold s0c at hx;rw[List.getElem?_replicate] at hx;split at hx
  ·injection hx with hx;exact hx.symm
  ·cases hx
 refine ⟨fun n ver b _ hb => ?_,fun n ver b hb => ?_,fun n m vn vm bn bm L M x h1 => ?_⟩
 ·have:=get n _ hb;injection this
 ·have:=get n _ hb;injection this with _ h2;cases h2
 ·have:=get n _ h1;injection this with _ h2;cases h2
theorem o0s (fx:Hints) {E:EnvM} {b:Nat}:¬e0i (s0c fx) E b:=by
 rintro ⟨n,ver,B,L,h1,_⟩;unfold s0c at h1;rw[List.getElem?_replicate] at h1;split at h1
 ·injection h1 with h1;injection h1 with _ h1;cases h1
 ·cases h1
theorem f1h {l:List (Nat×Ty)} {x:El (e0e l)} {k:St→Option R} {r:R} {O:List Nat} (hk:e1k fx l x k=some r) (hs:KeepRel cx W0 F0 O0 nt l x a W F O) :
  ∃st' E',k st'=some r∧StRel cx W0 F0 O0 nt st' a W F E':=by
 unfold e1k at hk;obtain ⟨st',E',h1,h2,h3,h4⟩:=j1k (P:=cx.P) (W:=W) (F:=F) (a:=a) l x [] (s0c fx) 0 k r hk (o1z fx) hs.forms hs.rd hs.nodup hs.free (fun b _=>o0s fx) (fun s=>trivial);refine ⟨st',E',h1,h2,hs.hF,h3,hs.later,hs.frame,fun b hb => ?_,hs.fz,hs.size,hs.keep,hs.defers⟩;rcases h4 b hb with q | q
 ·exact (o0s fx q).elim
 ·exact hs.own b q
end
end Go.Flat
end
section
namespace Go.Flat
open Go.RowKit (Below)
section
variable {cx:Cx} {call:c0g cx} {fx:Hints} {W0:World} {F0:Fz} {O0:List Nat} {nt:Slots}
def p2s (cx:Cx) (call:c0g cx) (fx:Hints) (W0:World) (F0:Fz) (O0:List Nat) (nt:Slots) (rd:Option Nat) (Rf:Type) (ret:St→Option Rf) (c:Code):Prop :=
 ∀(R:Type) (kr:Rf→Option R) (st:St) (k:Exit→St→Option R) (r:R) (a:Act) (W:World) (F:Fz) (E:EnvM) (Q:Exit→Act→World→Prop),
  s0q nt.nt nt.K c=true→StRel cx W0 F0 O0 nt st a W F E→evC cx call fx Rf ret c R kr st k=some r →
  (∀e st' a' W' F' E',k e st'=some r→StRel cx W0 F0 O0 nt st' a' W' F' E'→Q e a' W') →
  (∀y st' a' W' F' E',kr y=some r→ret st'=some y→StRel cx W0 F0 O0 nt st' a' W' F' E'→Q .ret a' W')→c.wpIn (Rnd rd) 0 cx.P Q a W
theorem g2g {rd:Option Nat} {Rf:Type} {ret:St→Option Rf} {c:Code} (hcode:p2s cx call fx W0 F0 O0 nt rd Rf ret c) (hb:s0q nt.nt nt.K c=true) {R:Type} {kr:Rf→Option R} {k:Exit→St→Option R} {r:R} {Q:Exit→Act→World→Prop}
  (hk:∀e st' a' W' F' E',k e st'=some r→StRel cx W0 F0 O0 nt st' a' W' F' E'→Q e a' W')
  (hkr:∀y st' a' W' F' E',kr y=some r→ret st'=some y→StRel cx W0 F0 O0 nt st' a' W' F' E'→Q .ret a' W') :
  ∀(n:Nat) (st:St) (a:Act) (W:World) (F:Fz) (E:EnvM),StRel cx W0 F0 O0 nt st a W F E→spin (fun st k=>evC cx call fx Rf ret c R kr st k) n st k=some r→Code.roundsIn (Rnd rd) 0 cx.P c Q n a W:=by
 intro n;induction n with
 | zero=>intro st a W F E _ h;cases h
 | succ n ih =>
  intro st a W F E hs h;simp only[spin] at h;refine hcode R kr st _ r a W F E _ hb hs h (fun e st' a' W' F' E' h1 h2 => ?_) (fun y st' a' W' F' E' h1 h2 h3=>hkr y st' a' W' F' E' h1 h2 h3);cases e with
  | normal=>exact ih st' a' W' F' E' h2 h1
  | _=>exact hk _ st' a' W' F' E' h1 h2
def f2s (v w:Value):Prop:=v=w∨((∃a,v = .slice a 0 0)∧∃b,w = .slice b 0 0)
theorem g2u {P:Program} {x y:V} (h:sameRow x y=true) {v w:Value} {W:World} {F:Fz} {E:EnvM} (hx:RdV P W F E x v) (hy:RdV P W F E y w):f2s v w:=by
 unfold sameRow at h;split at h
 case h_2=>cases h
 rename_i n k m j;simp only[Bool.and_eq_true] at h;obtain rfl:=Nat.eq_of_beq_eq_true h.1;obtain rfl:=Nat.eq_of_beq_eq_true h.2;obtain ⟨g1,⟨L,g2⟩,g3⟩:=hx.single.1;obtain ⟨_,_,f3⟩:=hy.single.1;have a1:=g3 L g2;have a2:=f3 L g2;cases L with
 | box b=>exact a1.elim
 | nil=>exact .inr ⟨a1,a2⟩
 | arr b w' len cap=>exact .inl (a1.trans a2.symm)
theorem z1a {al:List (Nat×Nat)} {st:St} (h:p2l al st=true) {a:Act} {W:World} {F:Fz} {E:EnvM} (hs:StRel cx W0 F0 O0 nt st a W F E):∀p∈al,f2s (a.tmps.getD p.1 undef) (a.tmps.getD p.2 undef):=by
 intro p hp;exact g2u (List.all_eq_true.1 h p hp) (hs.t p.1) (hs.t p.2)
theorem p2k {R:Type} {r:R} {k:St→Option R} {a:Act} {W:World} {F:Fz} {E:EnvM}:∀(al:List (Nat×Nat)) (st:St),f2p al st k=some r→(∀p∈al,f2s (a.tmps.getD p.1 undef) (a.tmps.getD p.2 undef))→StRel cx W0 F0 O0 nt st a W F E →
  ∃st',k st'=some r∧StRel cx W0 F0 O0 nt st' a W F E:=by
 intro al;induction al with
 | nil=>intro st h _ hs;exact ⟨st,h,hs⟩
 | cons p al ih =>
  obtain ⟨s,m⟩:=p;intro st h hal hs;unfold f2p at h;split at h
  case h_2=>cases h
  rename_i n ver hm;split at h
  case h_2=>cases h
  rename_i ver' e xs fr hn;split at h
  case isFalse=>cases h
  rename_i hver;subst hver;refine ih _ h (fun p hp=>hal p (by simp[hp])) ⟨hs.hr,hs.hF,fun s' => ?_,hs.later,hs.frame,hs.own,hs.fz,hs.size,hs.keep,hs.defers⟩;simp only[getT];cases hbe:Nat.beq s s' with
  | false=>exact hs.t s'
  | true =>
   have:=Nat.eq_of_beq_eq_true hbe;subst this;have hmv:=hs.t m;rw[hm] at hmv;simp only[cond_true];rcases hal (s,m) (by simp) with q | ⟨⟨x,q1⟩,⟨y,q2⟩⟩
   ·simp only at q;rw[q];exact hmv
   ·simp only at q1 q2;rw[q2] at hmv;rw[q1];obtain ⟨g1,g2,g3⟩:=hmv.single.1;refine RdV.mk1 ⟨g1,g2,fun L hL => ?_⟩ rfl;have:=g3 L hL;cases L with
    | box b=>exact this.elim
    | nil=>exact ⟨x,rfl⟩
    | arr b w' len cap =>
     exfalso;rcases e0l hs.hr hn with ⟨z1,_⟩ | ⟨b',cap',z1,⟨cs,T,_,_,_,hcap,_⟩,_⟩
     ·rw[hL] at z1;injection z1 with z1;cases z1
     ·rw[hL] at z1;injection z1 with z1;injection z1 with _ _ _ z1;have h0:Value.slice y 0 0 = .slice (some ⟨b,0,none⟩) len cap:=this;injection h0 with _ _ h0;omega
theorem i2m (hc:CallSound cx call W0 F0) {hh:LoopH} {rd:Option Nat} {Rf:Type} {ret:St→Option Rf} {c:Code} (hcode:p2s cx call fx W0 F0 O0 nt rd Rf ret c) (hb:s0q nt.nt nt.K c=true) {s:El (e0e hh.outs) ⊕ Rf} {Q:Exit→Act→World→Prop}
  (hl:∀y a' W' F' O,s = .inl y→KeepRel cx W0 F0 O0 nt hh.outs y a' W' F' O→Q (.exit hh.exit) a' W')
  (hr:∀y st' a' W' F' E',s = .inr y→ret st'=some y→StRel cx W0 F0 O0 nt st' a' W' F' E'→Q .ret a' W') :
  ∀(n:Nat) (x:El (e0e hh.live)) (a:Act) (W:World) (F:Fz) (O:List Nat),KeepRel cx W0 F0 O0 nt hh.live x a W F O→(∀p∈hh.alias,f2s (a.tmps.getD p.1 undef) (a.tmps.getD p.2 undef)) →
   i2n cx call fx hh ret (fun st k=>evC cx call fx Rf ret c _ (fun r=>some (.inr r)) st k) n x=some s→Code.roundsIn (Rnd rd) 0 cx.P c Q n a W:=by
 intro n;induction n with
 | zero=>intro x a W F O _ _ h;cases h
 | succ n ih =>
  intro x a W F O hs hal h;simp only[i2n] at h;obtain ⟨st,E,h,hs⟩:=f1h h hs;obtain ⟨st,h,hs⟩:=p2k _ _ h hal hs;refine hcode _ _ st _ s a W F E _ hb hs h (fun e st' a' W' F' E' h1 h2 => ?_) (fun y st' a' W' F' E' h1 h2 h3 => ?_)
  ·cases e with
   | normal =>
    obtain ⟨hal',h1⟩:=c0r h1;have hal':=z1a hal' h2;cases hp:h1e cx call st' hh.live with
    | none=>rw[hp] at h1;cases h1
    | some y =>
     rw[hp] at h1;simp only[Option.bind_some] at h1;obtain ⟨F2,O2,hk⟩:=g1z hc h2 hp;exact ih y a' W' F2 O2 hk hal' h1
   | exit id =>
    dsimp only at h1;split at h1
    case isFalse=>cases h1
    rename_i hid;subst hid;simp only[Option.map_eq_some_iff] at h1;obtain ⟨y,hp,hy⟩:=h1;obtain ⟨F2,O2,hk⟩:=g1z hc h2 hp;exact hl y a' W' F2 O2 hy.symm hk
   | ret =>
    simp only[Option.map_eq_some_iff] at h1;obtain ⟨y,hp,hy⟩:=h1;exact hr y st' a' W' F' E' hy.symm hp h2
   | goto l=>cases h1
   | panic ch=>cases h1
   | outgrown=>cases h1
  ·injection h1 with h1;exact hr y st' a' W' F' E' h1.symm h2 h3
theorem o2a (hc:CallSound cx call W0 F0) (tab:j0w cx) (hfn:FnOk cx call) (hm:cx.P.follows .mixedOrders=true) {rd:Option Nat} {Rf:Type} {ret:St→Option Rf}:∀c:Code,p2s cx call fx W0 F0 O0 nt rd Rf ret c:=by
 intro c;induction c with
 | skip=>intro R kr st k r a W F E Q _ hs h hk _;exact wpIn_skip (hk _ st a W F E h hs)
 | ret=>intro R kr st k r a W F E Q _ hs h hk _;exact wpIn_ret (hk _ st a W F E h hs)
 | exit id=>intro R kr st k r a W F E Q _ hs h hk _;exact wpIn_exit (hk _ st a W F E h hs)
 | region id ops draw =>
  intro R kr st k r a W F E Q hb hs h hk _;exact n1s hc tab hfn hm hb hs h fun st' a' W' F' E' h1 h2=>hk _ st' a' W' F' E' h1 h2
 | seq x y ihx ihy =>
  intro R kr st k r a W F E Q hb hs h hk hkr;simp only[s0q,Bool.and_eq_true] at hb;refine wpIn_seq (ihx R kr st _ r a W F E _ hb.1 hs h (fun e st' a' W' F' E' h1 h2 => ?_) (fun z st' a' W' F' E' h1 h2 h3=>hkr z st' a' W' F' E' h1 h2 h3));cases e with
  | normal=>exact ihy R kr st' k r a' W' F' E' Q hb.2 h2 h1 hk hkr
  | _=>exact hk _ st' a' W' F' E' h1 h2
 | cond z x y ihx ihy =>
  intro R kr st k r a W F E Q hb hs h hk hkr;simp only[s0q,Bool.and_eq_true] at hb;simp only[evC] at h;split at h
  case h_3=>cases h
  case h_2 =>
   rename_i hz;have hv:=r1y (hc.glob.later hs.later) hs.t z;rw[hz] at hv;obtain ⟨b,hv⟩:∃b,_=Value.bool b:=hv.single.1;obtain ⟨h1,h2⟩:=o2z h;cases b with
   | true=>exact wpIn_cond_true hv (ihx R kr st k r a W F E Q hb.1 hs h1 hk hkr)
   | false=>exact wpIn_cond_false hv (ihy R kr st k r a W F E Q hb.2 hs h2 hk hkr)
  rename_i b hz;have hv:=r1y (hc.glob.later hs.later) hs.t z;rw[hz] at hv;have hv:=x0g hv;cases b with
  | true=>exact wpIn_cond_true hv (ihx R kr st k r a W F E Q hb.1 hs h hk hkr)
  | false=>exact wpIn_cond_false hv (ihy R kr st k r a W F E Q hb.2 hs h hk hkr)
 | block id x ih =>
  intro R kr st k r a W F E Q hb hs h hk hkr;refine wpIn_block (ih R kr st _ r a W F E _ hb hs h (fun e st' a' W' F' E' h1 h2 => ?_) (fun z st' a' W' F' E' h1 h2 h3=>hkr z st' a' W' F' E' h1 h2 h3));cases e with
  | exit id' =>
   dsimp only at h1;simp only[Exit.inBlock];split at h1
   ·rename_i he;rw[if_pos he];exact hk _ st' a' W' F' E' h1 h2
   ·rename_i he;rw[if_neg he];exact hk _ st' a' W' F' E' h1 h2
  | _=>exact hk _ st' a' W' F' E' h1 h2
 | loop x ih =>
  intro R kr st k r a W F E Q hb hs h hk hkr;simp only[evC] at h;split at h
  ·exact wpIn_loop_rounds a0d (g2g ih hb hk hkr a0d st a W F E hs h)
  ·rename_i hh _;obtain ⟨hal,h⟩:=c0r h;have hal:=z1a hal hs;cases hp:h1e cx call st hh.live with
   | none=>rw[hp] at h;cases h
   | some y =>
    rw[hp] at h;simp only[Option.bind_some] at h;cases hl:i2n cx call fx hh ret (fun st k=>evC cx call fx Rf ret x _ (fun r=>some (.inr r)) st k) a0d y with
    | none=>rw[hl] at h;cases h
    | some s =>
     rw[hl] at h;simp only[Option.bind_some] at h;obtain ⟨F2,O2,hkp⟩:=g1z hc hs hp;refine wpIn_loop_rounds a0d (i2m hc ih hb (s:=s) (fun z a' W' F' O he hz => ?_) (fun z st' a' W' F' E' he h1 h2 => ?_) a0d y a W F2 O2 hkp hal hl)
     ·subst he;obtain ⟨st',E',h1,h2⟩:=f1h h hz;have h1:=v1k h1;exact hk _ st' a' W' F' E' h1 h2
     ·subst he;exact hkr z st' a' W' F' E' h h1 h2
 | _=>intro R kr st k r a W F E Q _ _ h;cases h
end
end Go.Flat
end
section
namespace Go.Flat
open Go.RowKit (Below)
theorem d0q.get:∀ {ts:List Ty} {vs:List Value},d0q ts vs→∀ {i:Nat} {t:Ty},ts[i]? = some t→∃v,vs[i]? = some v∧formed t v:=by
 intro ts;induction ts with
 | nil=>intro vs _ i t h;simp at h
 | cons t ts ih =>
  intro vs h i u hu;cases vs with
  | nil=>exact h.elim
  | cons v vs =>
   cases i with
   | zero=>simp at hu;subst hu;exact ⟨v,rfl,h.1⟩
   | succ i=>simpa using ih h.2 (by simpa using hu)
section
variable {cx:Cx} {call:c0g cx} {fx:Hints} {W0 W W':World} {F0 F F':Fz} {O0:List Nat} {E E':EnvM} {h:Heap} {a:Act} {R:Type} {nt:Slots} {st:St}
def resF (tmps : Array Value) : ResultVar → Sem Value := fun r => match r with
    | .tmp t=>pure (tmps.getD t undef)
    | .cell a t=>do loadVar t (←asAddr (tmps.getD a undef))
theorem g2w (tab:j0w cx) (hr:HR cx.P W F E (fun _=>True) h) {t:List (Nat×V)} (ht:∀s,RdV cx.P W F E (getT t s) (a.tmps.getD s undef)):∀(rvs:List ResultVar) (ts:List Ty) (cs:List Cell),f0m cx h t rvs ts=some cs →
  ∃ws,d0q ts ws∧a0j cx.P W F E cs (ws.flatMap fun v=>v.cells.toList)∧(rvs.mapM (resF a.tmps)).run cx.P W = .ok ws W:=by
 intro rvs;induction rvs with
 | nil =>
  intro ts cs hk;cases ts with
  | nil =>
   simp only[f0m,Option.some.injEq] at hk;subst hk;exact ⟨[],trivial,a0j.nil,rfl⟩
  | cons t ts=>simp[f0m] at hk
 | cons rv rvs ih =>
  intro ts cs hk;cases ts with
  | nil=>cases rv<;>simp[f0m] at hk
  | cons ty ts =>
   cases rv with
   | tmp s =>
    simp only[f0m] at hk;split at hk
    case h_2=>cases hk
    rename_i ag cs1 hg;split at hk
    case isFalse=>cases hk
    rename_i hag;simp only[Option.map_eq_some_iff] at hk;obtain ⟨cs2,h2,rfl⟩:=hk;have hv:=ht s;rw[hg] at hv;obtain ⟨ws,k1,k2,k3⟩:=ih ts cs2 h2;have hw:(a.tmps.getD s undef).cells.size=width ty:=by
     have h1:cs1.length=(a.tmps.getD s undef).cells.toList.length:=hv.1.1;rw[Array.length_toList] at h1;exact h1.symm.trans hag.2
    refine ⟨a.tmps.getD s undef::ws,⟨RdV1.formed hv hag.1 hw,k1⟩,?_,?_⟩
    ·rw[List.flatMap_cons];exact hv.1.append k2
    ·rw[List.mapM_cons];simp[resF,k3]
   | cell s ct =>
    simp only[f0m] at hk;split at hk
    case h_2=>cases hk
    rename_i ac c hg hc;split at hk
    case isFalse=>cases hk
    rename_i hag;have hv:=ht s;rw[hg] at hv;obtain ⟨cs1,h1,h2,b,o,vs,h3,h4,h5⟩:=e2q hr hk hv.single.1;simp only[Option.map_eq_some_iff] at h1;obtain ⟨cs2,q2,rfl⟩:=h1;obtain ⟨ws,k1,k2,k3⟩:=ih ts cs2 q2;obtain ⟨⟨ti,t1,t2,_⟩,t3,t4,t5,t6⟩:=y0f tab hc;have hl:vs.length=ti.size:=by rw[←h4.1,h2,t2]
    have hrun:=p0x (P:=cx.P) (W:=W) (b:=b) (o:=o) t1 t6 hl h5 (fun e=>by rw[hl,t2];exact t5 (t3.trans e));have hV:=h4.mkV (ag:=agg c) (fun e=>by rw[h2];exact t5 e);rw[←t3] at hrun;generalize (if agg c=true then Value.agg vs.toArray else vs.headD .nilFunc)=w at hrun hV;have hw:w.cells.size=width ty:=by
     have h1':cs1.length=w.cells.toList.length:=hV.1.1;rw[Array.length_toList] at h1';exact h1'.symm.trans (h2.trans hag.2)
    refine ⟨w::ws,⟨RdV1.formed hV hag.1 hw,k1⟩,?_,?_⟩
    ·rw[List.flatMap_cons];exact hV.1.append k2
    ·rw[List.mapM_cons];simp[resF,h3,asAddr,hrun,k3]
theorem a2f {fn:Func} {ws:List Value} {P:Program} (h:(fn.results.toList.mapM (resF a.tmps)).run P W = .ok ws W):(results fn a.tmps).run P W = .ok (f1x ws) W:=by
 have e:results fn a.tmps=(do let vs ←fn.results.mapM (resF a.tmps);pure (if h:vs.size=1 then vs[0] else .tuple vs)):=rfl;rw[e,Array.mapM_eq_mapM_toList];simp only[Sem.run_bind,map_eq_pure_bind,h,Result.andThen_ok,Sem.run_pure];congr 1;unfold f1x
 match ws with
 | []=>rfl
 | [w]=>rfl
 | w::w2::r=>simp
theorem d2g {P:Program} {ps:List Ty} {args:List Value} (hf:d0q ps args) {t:List (Nat×V)}:∀(back:List Nat),(back.all fun i=>isRef ps[i]?)=true→(∀i∈back,∀v,args[i]? = some v→RdV P W F E (getT t i) v) →
  a0j P W F E (back.map fun i=>e1y (getT t i)) ((back.filterMap (args[·]?)).flatMap fun v=>v.cells.toList):=by
 intro back;induction back with
 | nil=>intro _ _;exact a0j.nil
 | cons i r ih =>
  intro hall hv;simp only[List.all_cons,Bool.and_eq_true] at hall;have ih:=ih hall.2 fun j hj=>hv j (by simp[hj])
  have hp:∃p,ps[i]? = some p∧agg p=false:=by
   have:=hall.1;unfold isRef at this;split at this
   ·rename_i e he;exact ⟨_,he,rfl⟩
   ·rename_i e he;exact ⟨_,he,rfl⟩
   ·rename_i e he;exact ⟨_,he,rfl⟩
   ·cases this
  obtain ⟨p,hp,hagg⟩:=hp;obtain ⟨v,h1,h2⟩:=hf.get hp;have hone:=h2.2.1 hagg;have hcells:=oneCell_cells hone;have hrd:=hv i (by simp) v h1;simp only[List.map_cons,List.filterMap_cons,h1,List.flatMap_cons];rw[hcells];show a0j P W F E (e1y (getT t i)::_) (v::_);refine a0j.cons.2 ⟨⟨?_,hone⟩,ih⟩;unfold e1y;split
  ·rename_i ag c cs hg;rw[hg] at hrd;have:=hrd.1;rw[hcells] at this;obtain ⟨u,us,hu,q1,_⟩:=this.uncons;simp only[List.cons.injEq] at hu;rw[hu.1];exact q1
  ·trivial
theorem retK_rd (hc:CallSound cx call W0 F0) (tab:j0w cx) {fn:Func} {s:Sig} {args:List Value} (hf:d0q s.ps args) (hback:(s.back.all fun i=>isRef s.ps[i]?)=true) (hs:StRel cx W0 F0 O0 nt st a W F E) (hK:nt.K=s.back)
  (hkv:∀i v,args[i]? = some v→nt.kv i=v) {y:El (tup (s.rs++s.back.filterMap (s.ps[·]?)))} (hk:retK cx call fn s st=some y) :
  ∃v F',(results fn a.tmps).run cx.P W = .ok v W∧Move W0 F0 O0 W F'∧Ret cx.P W0 O0 s args (tup (s.rs++s.back.filterMap (s.ps[·]?))) y W F' v:=by
 unfold retK at hk;split at hk
 case h_2=>cases hk
 rename_i cs hcs;split at hk
 case h_2=>cases hk
 rename_i z taken lent hp;split at hk
 case isFalse=>cases hk
 rename_i hnd;injection hk with hk;subst hk;obtain ⟨ws,k1,k2,k3⟩:=g2w tab hs.hr hs.t fn.results.toList s.rs cs hcs;have hb:=d2g (P:=cx.P) (W:=W) (F:=F) (E:=E) (t:=st.t) hf s.back hback (fun i hi v hv=>by
  have:=hs.t i;rw[hs.keep i (by rw[hK];exact hi),hkv i v hv] at this
  exact this)
 obtain ⟨O,m1,m2,m3⟩:=b1v (hc.later hs.later) hs.hr hp (k2.append hb);rw[←List.flatMap_append] at m1;have hnd':=j1g hnd;have own:∀n b,atName st.h E n b→b∈O0∨W0.heap.size≤b:=fun n b hat=>hs.own b ⟨n,hat⟩
 refine ⟨f1x ws,a0t F st.h E lent,a2f k3,⟨hs.later.trans (c0s lent),hs.frame,fun b hb => ?_⟩,ws,O,k1,rfl,m1,m2.nodup hnd'.1,?_,fun b hb => ?_⟩
 ·have hlt:=a0t.lt hs.hr hs.hF hb;rcases hb with hb | ⟨n,_,hat⟩
  ·rcases hs.fz b hb with q | q | q
   ·exact .inl q
   ·exact .inr (.inl q)
   ·exact .inr (.inr ⟨q,hlt⟩)
  ·rcases own n b hat with q | q
   ·exact .inr (.inl q)
   ·exact .inr (.inr ⟨q,hlt⟩)
 ·rintro b hb (hf | ⟨n,hn,hat⟩)
  ·exact m2.free b hb hf
  ·obtain ⟨m,hm,hat'⟩:=m2.at_ b hb;exact hnd'.2.2 m hm n hn (d0a hs.hr hat' hat)
 ·obtain ⟨n,_,hat⟩:=m2.at_ b hb;exact own n b hat
theorem o2j {P:Program}:∀(ps:List Ty) (x:El (tupU ps)) (vs:List Value) (h:Heap) (nm:Nat) (k:List V→Heap→Nat→Option R) (r:R),f2d ps x h nm k=some r →
  ∀ {E:EnvM} {O:List Nat},HR P W F E (fun _=>True) h→d0q ps vs→RdB P (tupU ps) x W F O (cat vs)→O.Nodup→(∀b∈O,¬F b)→(∀b∈O,¬e0i h E b) →
   ∃us h' nm' E',k us h' nm'=some r∧EnvLe E E'∧HR P W F E' (fun _=>True) h'∧us.length=vs.length∧(∀(i:Nat) p u,us[i]? = some p→vs[i]? = some u→RdV P W F E' p u)∧(∀b,e0i h' E' b→e0i h E b∨b∈O):=by
 intro ps;induction ps with
 | nil =>
  intro x vs h nm k r hk E O hr hf _ _ _ _;have:vs=[]:=List.eq_nil_of_length_eq_zero hf.length;subst this;exact ⟨[],h,nm,E,hk,EnvLe.refl E,hr,rfl,fun i p u hp=>by simp at hp,fun b hb => .inl hb⟩
 | cons p ps ih =>
  intro x vs h nm k r hk E O hr hf hx hO hF hL;cases vs with
  | nil=>exact hf.elim
  | cons v vs =>
   simp only[f2d,i0n] at hk;obtain ⟨hfr,hk⟩:=c0r hk;obtain ⟨f1,f2⟩:=p1f hfr;obtain ⟨O1,O2,rfl,x1,x2⟩:=hx;rw[List.nodup_append] at hO;obtain ⟨E1,c1,cc1⟩:=u0y h p x.1 [] nm hr x1 hO.1 (fun b hb=>hF b (by simp[hb])) (fun b hb=>hL b (by simp[hb])) (fun n hn=>⟨trivial,f1 n hn,b0l hr trivial (f1 n hn)⟩) f2;have hlive:∀b∈O2,¬e0i (e0o h (b0i h p x.1 [] nm).2.1) E1 b:=by
    rintro b hb ⟨m,hat⟩;rcases c1.at_ m b hat with ⟨_,k⟩ | ⟨_,k⟩
    ·exact hO.2.2 b k b hb rfl
    ·exact hL b (by simp[hb]) ⟨m,k⟩
   rw[m0m hf.1.2.2] at x2;obtain ⟨us,h',nm',E2,m0,m1,m2,m3,m4,m5⟩:=ih x.2 vs _ _ _ r hk c1.hr hf.2 x2 hO.2.1 (fun b hb=>hF b (by simp[hb])) hlive;refine ⟨_,h',nm',E2,m0,c1.env.trans m1,m2,by simp[m3],fun i q u hq hu => ?_,fun b hb => ?_⟩
   ·cases i with
    | zero =>
     simp at hq hu;subst hq;subst hu;exact (came_V hf.1 cc1 (k0t hf.1.2.2)).later (Later.refl W F) m1
    | succ i=>exact m4 i q u (by simpa using hq) (by simpa using hu)
   ·rcases m5 b hb with ⟨m,hat⟩ | q
    ·rcases c1.at_ m b hat with ⟨_,k⟩ | ⟨_,k⟩
     ·exact .inr (by simp[k])
     ·exact .inl ⟨m,k⟩
    ·exact .inr (by simp[q])
theorem x1m:∀(us:List V) (b s:Nat),getT (numbered b us) s=if b≤s then (us[s-b]?).getD .lost else .lost:=by
 intro us;induction us with
 | nil=>intro b s;simp[numbered,getT]
 | cons u us ih =>
  intro b s;simp only[numbered,getT];cases hb:Nat.beq b s with
  | true =>
   have:=Nat.eq_of_beq_eq_true hb;subst this;simp
  | false =>
   simp only[cond_false];rw[ih];have hne:b≠s:=fun e=>by subst e;simp at hb
   by_cases hle:b≤s
   ·rw[if_pos hle,if_pos (by omega),show s-b=(s-(b+1))+1 by omega];simp
   ·rw[if_neg hle,if_neg (by omega)]
theorem FnOk.body (hp:Fns cx) (tab:j0w cx) (hfn:FnOk cx call) (hm:cx.P.follows .mixedOrders=true):FnOk cx (Flat.body cx call):=by
 intro f s hs x y hy W F O vs hg hF hforms hrd hnd hfree;have hc:CallSound cx call W F:=FnOk.closed hp hfn hg;unfold Flat.body at hy;rw[hs] at hy;dsimp only at hy;cases hfun:cx.P.funcs[f]? with
 | none=>rw[hfun] at hy;cases hy
 | some fn =>
  rw[hfun] at hy;dsimp only at hy;split at hy
  case h_2=>cases hy
  rename_i c x' hb hx';obtain ⟨hok,hy⟩:=c0r hy;obtain ⟨ex,rfl⟩:=b0r hx';simp only[okBody,Bool.and_eq_true] at hok;obtain ⟨hbelow,hps,hback⟩:=hok;have hps:s.ps.length≤fn.ntmps:=by simpa [Nat.ble_eq] using hps
  have hlen:=hforms.length;obtain ⟨us,h',nm',E,hk,_,hr,hul,hus,hlive⟩:=o2j (P:=cx.P) (W:=W) (F:=F) s.ps (ex ▸ x) vs (s0c (cx.hints f)) 0 _ y hy (o1z _) hforms (RdB.cast ex hrd) hnd hfree (fun b _=>o0s _);clear hy;obtain ⟨fx',hk⟩:=z1w hk;have hget:∀s,({ tmps:=vs.toArray++Array.replicate (fn.ntmps-vs.toArray.size) undef,defers:=[] }:Act).tmps.getD s undef=(vs[s]?).getD undef:=by
   intro s;simp only[Array.getD_eq_getD_getElem?,Array.getElem?_append,List.size_toArray,List.getElem?_toArray];by_cases hlt:s<vs.length
   ·rw[if_pos hlt]
   ·rw[if_neg hlt,List.getElem?_eq_none (by omega),Array.getElem?_replicate];split<;>rfl
  let nt:Slots:=⟨fn.ntmps,s.back,fun i=>(vs[i]?).getD undef⟩
  have hstart:StRel cx W F O nt ⟨numbered 0 us,h'⟩ { tmps:=vs.toArray++Array.replicate (fn.ntmps-vs.toArray.size) undef,defers:=[] } W F E:=by
   refine ⟨hr,hF,fun s => ?_,Later.refl W F,fun _ _ _=>rfl,fun b hb => ?_,fun _ hb => .inl hb,?_,fun i _=>hget i,rfl⟩
   ·rw[hget,x1m,if_pos (Nat.zero_le _),Nat.sub_zero];by_cases hlt:s<vs.length
    ·have hlt':s<us.length:=by omega
     rw[List.getElem?_eq_getElem hlt',List.getElem?_eq_getElem hlt];exact hus s _ _ (List.getElem?_eq_getElem hlt') (List.getElem?_eq_getElem hlt)
    ·rw[List.getElem?_eq_none (l:=us) (by omega)];exact trivial
   ·rcases hlive b hb with q | q
    ·exact (o0s _ q).elim
    ·exact .inl q
   ·simp;show vs.length+(fn.ntmps-vs.length)=fn.ntmps;omega
  refine calls_of_wp hfun hb ((wpIn_wide (n:=0)).1 ?_);have fin:∀(z:El (tup (s.rs++s.back.filterMap (s.ps[·]?)))) st' a' W' F' E',e0k (a:=tup (s.rs++s.back.filterMap (s.ps[·]?))) (b:=cx.out f) z=some y→retK cx call fn s st'=some z→StRel cx W F O nt st' a' W' F' E' →
    a'.defers=[]∧∃v,(results fn a'.tmps).run cx.P W' = .ok v W'∧∃v' F',Ending.returned v = .returned v'∧Move W F O W' F'∧Ret cx.P W O s vs (cx.out f) y W' F' v':=by
   intro z st' a' W' F' E' h1 h2 h3;obtain ⟨ez,rfl⟩:=b0r h1;obtain ⟨v,F2,k1,k2,ws,O',k3,k4,k5,k6⟩:=retK_rd hc tab hforms hback h3 rfl (fun i v hv=>by show (vs[i]?).getD undef=v;rw[hv];rfl) h2;exact ⟨h3.defers,v,k1,v,F2,rfl,k2,ws,O',k3,k4,RdB.cast ez k5,k6⟩
  refine o2a (rd:=none) (W0:=W) (F0:=F) (O0:=O) (nt:=nt) hc tab hfn hm c _ _ _ _ y _ W F E _ hbelow hstart hk (fun e st' a' W' F' E' h1 h2 => ?_) (fun z st' a' W' F' E' h1 h2 h3=>fin z st' a' W' F' E' h1 h2 h3);cases e with
  | normal =>
   dsimp only at h1;cases hz:retK cx call fn s st' with
   | none=>rw[hz] at h1;cases h1
   | some z=>rw[hz] at h1;exact fin z st' a' W' F' E' h1 hz h2
  | ret =>
   dsimp only at h1;cases hz:retK cx call fn s st' with
   | none=>rw[hz] at h1;cases h1
   | some z=>rw[hz] at h1;exact fin z st' a' W' F' E' h1 hz h2
  | exit id=>cases h1
  | goto l=>cases h1
  | panic ch=>cases h1
  | outgrown=>cases h1
def p2p (cx:Cx):Prop :=
 ∀f H,cx.hand f=some H→∀s,cx.sig f=some s→∀(x:El (cx.arg f)) (y:El (cx.out f)),handF cx H f x=some y→∀W F O vs,r0c cx W F→(∀b,F b→b<W.heap.size)→d0q s.ps vs→RdB cx.P (cx.arg f) x W F O (cat vs) →
  O.Nodup→(∀b∈O,¬F b)→Calls cx.P f vs.toArray W fun e W'=>∃v F',e = .returned v∧Move W F O W' F'∧Ret cx.P W O s vs (cx.out f) y W' F' v
theorem evF_ok (tab:j0w cx) (hp:Fns cx) (hm:cx.P.follows .mixedOrders=true) (hh:p2p cx):∀n,FnOk cx (evF cx n):=by
 intro n;induction n with
 | zero=>intro f s _ x y hy;cases hy
 | succ n ih =>
  intro f s hs x y hy;simp only[evF] at hy;cases hf:cx.hand f with
  | none=>rw[hf] at hy;exact FnOk.body hp tab ih hm f s hs x y hy
  | some H=>rw[hf] at hy;exact hh f H hf s hs x y hy
end
end Go.Flat
end
section
namespace Go.Flat
open Go.RowKit (Below)
open Go.ChangeShapes Go.WideShapes
def Wf:(t:Ty)→El t→Prop
 | .pair a b,x=>Wf a x.1∧Wf b x.2
 | .wrap e,x=>Wf e x
 | .int k,x=>k.min≤x∧x≤k.max
 | .str,x=>x.length≤maxLen
 | .slice e,x=>x.length≤maxLen∧∀y∈x,Wf e y
 | _,_=>True
def e0z (P:Program) (self:TypeId→Ty→Bool):List Field→Ty→Nat→Bool
 | [],.unit,_=>true
 | [f],e,off=>Nat.beq f.offset off&&(q0m P f.type e&&self f.type e)
 | f::g::r,.pair a b,off=>Nat.beq f.offset off&&(q0m P f.type a&&(self f.type a&&e0z P self (g::r) b (off+width a)))
 | _,_,_=>false
def readB (P:Program):Nat→TypeId→Ty→Bool
 | 0,_,_=>false
 | d+1,t,c =>
  match P.underlying t,c with
  | some .bool,.bool=>true
  | some (.int k),.int k'=>decide (k=k')
  | some .string,.str=>true
  | some (.slice el),.slice e=>q0m P el e&&(readB P d el e && !Nat.beq (width e) 0)
  | some (.struct fs),.wrap e=>q0m P t (.wrap e)&&e0z P (readB P d) fs.toList e 0
  | some (.array n el),.wrap e=>q0m P t (.wrap e)&&f0r P (readB P d) el n e
  | _,_=>false
section
variable {H:Type} {enc:TypeId×Value→H} {P:Program} {w:World} {held:Bool} {F:Fz}
theorem f0f {t:TypeId} {e:Ty} (h:q0m P t e=true):P.cellsOf t=width e:=by
 unfold q0m at h;split at h
 case h_2=>cases h
 rename_i ti hti;simp only[Bool.and_eq_true] at h;rw[show P.cellsOf t=ti.size by simp[Program.cellsOf,hti]];exact Nat.eq_of_beq_eq_true h.1
def p2n (enc:TypeId×Value→H) (P:Program) (w:World) (held:Bool) (F:Fz) (self:TypeId→Ty→Bool):Prop :=
 ∀t c,self t c=true→∀n (cs:List Value) (y:DataW H×List MemPlace),DataW.trod enc P w 0 (fun _=>true) held n t cs=some y→∃x:El c,cs.length=width c∧Rd P c x w F (fun j=>cs[j]?)∧Wf c x
theorem mapM_get {α β:Type} {f:α→Option β}:∀ {l:List α} {r:List β},l.mapM f=some r→∀(i:Nat) (x:α),l[i]? = some x→f x=r[i]? := by
 intro l;induction l with
 | nil=>intro r _ i x h;simp at h
 | cons a l ih =>
  intro r h i x hx;rw[List.mapM_cons] at h;simp only[bind,Option.bind_eq_some_iff,pure,Option.some.injEq] at h;obtain ⟨b,h1,r',h2,rfl⟩:=h;cases i with
  | zero=>simp at hx;subst hx;simpa using h1
  | succ i=>simpa using ih h2 i x (by simpa using hx)
theorem m2n {α β:Type} {f:α→Option β}:∀ {l:List α} {r:List β},l.mapM f=some r→r.length=l.length:=by
 intro l;induction l with
 | nil=>intro r h;simp at h;subst h;rfl
 | cons a l ih =>
  intro r h;rw[List.mapM_cons] at h;simp only[bind,Option.bind_eq_some_iff,pure,Option.some.injEq] at h;obtain ⟨b,h1,r',h2,rfl⟩:=h;simp[ih h2]
theorem y1q {a:Addr} {n:Nat} {cs:List Value} (h:w.cells? 0 a n=some cs):cs.length=n∧∀j,j<n→cs[j]? = w.cell? (a.add j):=by
 unfold World.cells? at h;rw[if_pos (Nat.zero_le _)] at h;have hl:cs.length=n:=by have:=m2n h;simpa using this
 refine ⟨hl,fun j hj => ?_⟩;have hj':(List.range n)[j]? = some j:=List.getElem?_range hj;exact (mapM_get h j j hj').symm
theorem fields_read {self:TypeId→Ty→Bool} (ih:p2n enc P w held F self) {n:Nat}:∀(fs:List Field) (e:Ty) (off:Nat) (cs:List Value),
  e0z P self fs e off=true→off+width e≤cs.length→(∀f∈fs,∃y,DataW.trod enc P w 0 (fun _=>true) held n f.type ((cs.drop f.offset).take (P.cellsOf f.type))=some y) →
   ∃x:El e,Rd P e x w F (fun j=>cs[off+j]?)∧Wf e x:=by
 intro fs;induction fs with
 | nil =>
  intro e off cs h _ _;cases e<;>(try (cases h));exact ⟨(),trivial,trivial⟩
 | cons f r ihf =>
  intro e off cs h hlen hf;have step:∀(c:Ty),Nat.beq f.offset off=true→q0m P f.type c=true→self f.type c=true→off+width c≤cs.length→∃x:El c,Rd P c x w F (fun j=>cs[off+j]?)∧Wf c x:=by
   intro c k1 k2 k3 k4;have k1:=Nat.eq_of_beq_eq_true k1;obtain ⟨y,hy⟩:=hf f (by simp);rw[k1,f0f k2] at hy;obtain ⟨x,_,h2,h3⟩:=ih _ _ k3 _ _ _ hy;refine ⟨x,Rd.congr c (fun j hj => ?_) h2,h3⟩;rw[List.getElem?_take,if_pos hj,List.getElem?_drop]
  cases r with
  | nil =>
   simp only[e0z,Bool.and_eq_true] at h;exact step e h.1 h.2.1 h.2.2 hlen
  | cons g r =>
   cases e with
   | pair a b =>
    simp only[e0z,Bool.and_eq_true] at h;simp only[width] at hlen;obtain ⟨x,x1,x2⟩:=step a h.1 h.2.1 h.2.2.1 (by omega);obtain ⟨y,y1,y2⟩:=ihf b (off+width a) cs h.2.2.2 (by omega) (fun f' hf'=>hf f' (by simp[hf']));exact ⟨(x,y),⟨x1,Rd.congr b (fun j _=>by rw[Nat.add_assoc]) y1⟩,x2,y2⟩
   | _=>simp[e0z] at h
theorem i2v {self:TypeId→Ty→Bool} (ih:p2n enc P w held F self) {el:TypeId} {m:Nat}:∀(n:Nat) (e:Ty) (i:Nat) (cs:List Value),
  f0r P self el n e=true→i*P.cellsOf el+width e≤cs.length→(∀j,i≤j→j<i+n→∃y,DataW.trod enc P w 0 (fun _=>true) held m el ((cs.drop (j*P.cellsOf el)).take (P.cellsOf el))=some y) →
   ∃x:El e,Rd P e x w F (fun j=>cs[i*P.cellsOf el+j]?)∧Wf e x:=by
 intro n;induction n with
 | zero =>
  intro e i cs h _ _;cases e<;>(try (cases h));exact ⟨(),trivial,trivial⟩
 | succ n ihn =>
  intro e i cs h hlen hf;have step:∀(c:Ty),q0m P el c=true→self el c=true→∃x:El c,Rd P c x w F (fun j=>cs[i*P.cellsOf el+j]?)∧Wf c x:=by
   intro c k2 k3;obtain ⟨y,hy⟩:=hf i (Nat.le_refl _) (by omega);obtain ⟨x,_,h2,h3⟩:=ih _ _ k3 _ _ _ hy;refine ⟨x,Rd.congr c (fun j hj => ?_) h2,h3⟩;rw[List.getElem?_take,if_pos (by rw[f0f k2];exact hj),List.getElem?_drop]
  cases n with
  | zero =>
   simp only[f0r,Bool.and_eq_true] at h;exact step e h.1 h.2
  | succ n =>
   cases e with
   | pair a b =>
    simp only[f0r,Bool.and_eq_true] at h;have hc:=f0f h.1;simp only[width] at hlen;obtain ⟨x,x1,x2⟩:=step a h.1 h.2.1;have e1:(i+1)*P.cellsOf el=i*P.cellsOf el+width a:=by rw[Nat.succ_mul,hc]
    obtain ⟨y,y1,y2⟩:=ihn b (i+1) cs h.2.2 (by omega) (fun j h1 h2=>hf j (by omega) (by omega));refine ⟨(x,y),⟨x1,Rd.congr b (fun j _ => ?_) y1⟩,x2,y2⟩;rw[e1,Nat.add_assoc]
   | _=>simp[f0r] at h
theorem read_ok:∀(d:Nat),p2n enc P w held (fun b=>b<w.heap.size) (readB P d):=by
 intro d;induction d with
 | zero=>intro t c h;cases h
 | succ d ih =>
  intro t c h n cs y hy;unfold readB at h;split at h
  ·rename_i hu;obtain ⟨b,rfl,_⟩:=DataW.trod_bool hu hy;exact ⟨b,rfl,rfl,trivial⟩
  ·rename_i k k' hu;obtain ⟨m,rfl,_,hw⟩:=DataW.trod_int hu hy;have:k=k':=by simpa using h
   subst this;simp only[Lit.wf,Bool.and_eq_true,decide_eq_true_eq] at hw;exact ⟨m,rfl,rfl,hw⟩
  ·rename_i hu;obtain ⟨s,rfl,_,hs⟩:=DataW.trod_string hu hy;refine ⟨s.data.toList,rfl,?_,?_⟩
   ·show some (Value.string s)=some (.string ⟨s.data.toList.toArray⟩);rw[Array.toArray_toList]
   show s.data.toList.length≤maxLen;have:s.data.toList.length=s.size:=rfl;rw[this];exact hs
  ·rename_i el e hu;simp only[Bool.and_eq_true,Bool.not_eq_true'] at h;obtain ⟨h1,h2,h3⟩:=h;have hce:=f0f h1;have hpos:0<width e:=by
    rcases Nat.eq_zero_or_pos (width e) with q | q
    ·rw[q] at h3;cases h3
    ·exact q
   rcases DataW.trod_slice hu hy with ⟨rfl,_⟩ | ⟨a,len,cap,elems,rest,m,rfl,rfl,_,_,hlc,hcm,hel,hget,hsp,_⟩
   ·exact ⟨[],rfl,.inl ⟨rfl,_,rfl⟩,Nat.zero_le _,by simp⟩
   ·obtain ⟨hr1,hr2⟩:=hsp rfl;have each:∀i,i<cap→∃cs:List Value,w.cells? 0 (a.add (i*P.cellsOf el)) (P.cellsOf el)=some cs∧∃y,DataW.trod enc P w 0 (fun _=>true) held m el cs=some y:=by
     intro i hi;have hs:∃y,(w.cells? 0 (a.add (i*P.cellsOf el)) (P.cellsOf el)).bind (DataW.trod enc P w 0 (fun _=>true) held m el)=some y:=by
      by_cases hlt:i<len
      ·rw[hget i hlt,List.getElem?_eq_getElem (by omega)];exact ⟨_,rfl⟩
      ·have:=hr2 (i-len) (by omega);rw[show len+(i-len)=i by omega] at this;rw[this,List.getElem?_eq_getElem (by omega)];exact ⟨_,rfl⟩
     obtain ⟨y,hy⟩:=hs;rw[Option.bind_eq_some_iff] at hy;obtain ⟨cs,k1,k2⟩:=hy;exact ⟨cs,k1,y,k2⟩
    have spot:0<cap→a.spot=none∧a.block<w.heap.size:=by
     intro hc;obtain ⟨cs,k1,_⟩:=each 0 hc;obtain ⟨l1,l2⟩:=y1q k1;have:=l2 0 (by omega);rw[List.getElem?_eq_getElem (by omega)] at this;simp only[Nat.zero_mul,Addr.add,if_true] at this;have hs:=this.symm;unfold World.cell? at hs;split at hs
     ·rename_i c t fr hb;split at hs
      ·cases hs
      ·rename_i hspot;refine ⟨by cases hsp:a.spot with | none=>rfl | some z=>rw[hsp] at hspot;exact absurd rfl hspot,e0w? hb⟩
     ·cases hs
    have elem:∀i,i<len→∃x:El e,Rd P e x w (fun b=>b<w.heap.size) (mem w a.block (a.off+i*width e))∧Wf e x:=by
     intro i hi;obtain ⟨cs,k1,y,k2⟩:=each i (by omega);obtain ⟨l1,l2⟩:=y1q k1;obtain ⟨x,x1,x2,x3⟩:=ih _ _ h2 _ _ _ k2;refine ⟨x,Rd.congr e (fun j hj => ?_) x2,x3⟩;rw[l2 j (by omega)];obtain ⟨hs,_⟩:=spot (by omega);have ha:a=⟨a.block,a.off,none⟩:=by cases a;simp at hs;subst hs;rfl
     rw[ha,addr_add,addr_add,hce];rfl
    rcases Nat.eq_zero_or_pos cap with hc0 | hc0
    ·subst hc0;have:len=0:=by omega
     subst this;exact ⟨[],rfl,.inl ⟨rfl,_,rfl⟩,Nat.zero_le _,by simp⟩
    ·obtain ⟨hs,hb⟩:=spot hc0;have ha:a=⟨a.block,a.off,none⟩:=by cases a;simp at hs;subst hs;rfl
     have all:∀k,k≤len→∃xs:List (El e),xs.length=k∧(∀i (h:i<xs.length),Rd P e xs[i] w (fun b=>b<w.heap.size) (mem w a.block (a.off+i*width e)))∧∀y∈xs,Wf e y:=by
      intro k;induction k with
      | zero=>intro _;exact ⟨[],rfl,fun i hi=>by simp at hi,by simp⟩
      | succ k ihk =>
       intro hk;obtain ⟨xs,l1,l2,l3⟩:=ihk (by omega);obtain ⟨x,x1,x2⟩:=elem k (by omega);refine ⟨xs++[x],by simp[l1],fun i hi => ?_,fun y hy => ?_⟩
       ·simp at hi;by_cases hlt:i<xs.length
        ·rw[List.getElem_append_left hlt];exact l2 i hlt
        ·have:i=k:=by omega
         subst this;rw[List.getElem_append_right (by omega)];simp[l1,x1]
       ·rcases List.mem_append.1 hy with hy | hy
        ·exact l3 y hy
        ·simp at hy;subst hy;exact x2
     obtain ⟨xs,l1,l2,l3⟩:=all len (Nat.le_refl _);refine ⟨xs,rfl,.inr ⟨a.block,a.off,cap,?_,hb,by omega,l2⟩,by omega,l3⟩;show some (Value.slice (some a) len cap)=some (Value.slice (some ⟨a.block,a.off,none⟩) xs.length cap);rw[l1,←ha]
  ·rename_i fs e hu;simp only[Bool.and_eq_true] at h;obtain ⟨xs,m,rfl,_,hl,hxs,hget⟩:=DataW.trod_struct hu hy;have hcl:cs.length=width e:=by rw[hl,f0f h.1];rfl
   obtain ⟨x,x1,x2⟩:=fields_read (F:=fun b=>b<w.heap.size) ih (n:=m) fs.toList e 0 cs h.2 (by omega) (fun f hf=>by
    obtain ⟨i,hi⟩:=List.getElem?_of_mem hf;have hi':fs[i]? = some f:=by simpa using hi
    have:=hget i f hi';have hlt:i<xs.length:=by
     rw[hxs];rcases Nat.lt_or_ge i fs.size with q | q
     ·exact q
     ·rw[Array.getElem?_eq_none q] at hi';cases hi'
    rw[List.getElem?_eq_getElem hlt] at this
    exact ⟨_,this⟩)
   exact ⟨x,hcl,Rd.congr e (fun j _=>by rw[Nat.zero_add]) x1,x2⟩
  ·rename_i m el e hu;simp only[Bool.and_eq_true] at h;obtain ⟨xs,q,rfl,_,hl,hxs,hget⟩:=DataW.trod_array hu hy;have hcl:cs.length=width e:=by rw[hl,f0f h.1];rfl
   obtain ⟨x,x1,x2⟩:=i2v (F:=fun b=>b<w.heap.size) ih (m:=q) m e 0 cs h.2 (by omega) (fun j _ hj=>by
    have:=hget j (by omega);rw[List.getElem?_eq_getElem (by omega)] at this
    exact ⟨_,this⟩)
   exact ⟨x,hcl,Rd.congr e (fun j _=>by rw[Nat.zero_mul,Nat.zero_add]) x1,x2⟩
  ·cases h
theorem open_arg {t:TypeId} {c:Ty} {d:Nat} {base:Nat} {v:Value} {dd:DataW H} {p:List MemPlace} (hB:readB P d t c=true) (ha:aggB P t=agg c) (hok:Value.okWide P w .any base t v)
  (h:DataW.Trod enc P w 0 (fun _=>true) held t v dd p):∃x:El c,formed c v∧Rd P c x w (fun b=>b<w.heap.size) (one v)∧Wf c x:=by
 obtain ⟨n,hn⟩:=h;obtain ⟨x,x1,x2,x3⟩:=read_ok d t c hB n _ _ hn;refine ⟨x,⟨fun e => ?_,fun e => ?_,by rw[←x1];simp⟩,Rd.congr c (fun j _=>by simp[one]) x2,x3⟩
 ·rw[e] at ha;unfold aggB at ha;unfold Value.okWide at hok;split at ha
  ·rename_i hu;rw[hu] at hok;obtain ⟨cs,h1,_⟩:=hok;exact ⟨cs,h1⟩
  ·rename_i hu;rw[hu] at hok;obtain ⟨cs,h1,_⟩:=hok;exact ⟨cs,h1⟩
  ·cases ha
 ·rw[e] at ha;cases v with
  | agg cs =>
   exfalso;unfold Value.okWide at hok;unfold aggB at ha;cases hu:P.underlying t with
   | none=>rw[hu] at hok;simp[Cell.okWide,hu,Cell.ok] at hok
   | some u =>
    rw[hu] at hok ha;cases u<;>simp_all [Cell.okWide,Cell.ok]
  | tuple cs =>
   exfalso;unfold Value.okWide at hok;unfold aggB at ha;cases hu:P.underlying t with
   | none=>rw[hu] at hok;simp[Cell.okWide,hu,Cell.ok] at hok
   | some u =>
    rw[hu] at hok ha;cases u<;>simp_all [Cell.okWide,Cell.ok]
  | _=>rfl
end
theorem r0c.none {cx:Cx} {W:World} {F:Fz} (h:∀g,cx.glob g=none):r0c cx W F:=fun g t x e=>by rw[h g] at e;cases e
theorem m2u {cx:Cx} (tab:j0w cx) (hp:Fns cx) (hm:cx.P.follows .mixedOrders=true) (hh:p2p cx) {n K:Nat} {s:Sig} (hs:cx.sig K=some s) (hrs:s.rs=[.bool]) (hback:s.back=[])
  {x:El (cx.arg K)} {y:El (cx.out K)} (hx:evF cx n K x=some y) (ho:cx.out K = .bool) (hy:(ho ▸ y:El .bool)=true) {W:World} {vs:List Value} (hg:r0c cx W (fun b=>b<W.heap.size)) (hf:d0q s.ps vs) (hrd:RdB cx.P (cx.arg K) x W (fun b=>b<W.heap.size) [] (cat vs)) :
  Calls cx.P K vs.toArray W fun e W'=>e = .returned (.bool true)∧Below W.heap.size W W':=by
 refine (evF_ok tab hp hm hh n K s hs x y hx W (fun b=>b<W.heap.size) [] vs hg (fun _ h=>h) hf hrd List.nodup_nil (by simp)).mono fun e W' h => ?_
 obtain ⟨v,F',rfl,hmove,ws,O',h1,rfl,h2,_,_,_⟩:=h;refine ⟨?_,hmove.later.os,hmove.later.tape,hmove.later.output,hmove.later.size,fun b hb=>hmove.frame b hb (by simp)⟩;rw[hrs] at h1
 match ws,h1 with
 | [w],h1 =>
  have h3:=RdB.cast ho h2;rw[hy] at h3;obtain ⟨_,h4⟩:=h3;rw[hback] at h4;have h5:cat ([w]++([]:List Nat).filterMap (vs[·]?)) 0=some (.bool true):=h4;have hc:=oneCell_cells (h1.1.2.1 rfl);rw[show ([w]++([]:List Nat).filterMap (vs[·]?))=[w] from rfl,k0t (t := .bool) (by rw[hc];rfl) 0 (by simp[width]),one,hc] at h5;simp at h5;subst h5;rfl
def w1u (P : Program) (f : FuncId) : Bool := match P.funcs[f]? with | some fn => !(fn.name == "runtime.NumGoroutine") && !fn.body.isNone | none => false
theorem l2v {P:Program} {f:FuncId} (h:w1u P f=true):Plain P f:=by
 unfold w1u at h;split at h
 ·rename_i fn hf;simp only[Bool.and_eq_true,Bool.not_eq_true'] at h;exact ⟨fn,hf,h.1,h.2⟩
 ·cases h
theorem tab_ok {cx:Cx} {T:BT TI} (hT:∀t,cx.info t=T.get t) (h:T.allB (fun n i=>infoB cx.P n i) id=true):j0w cx:=fun t i hi=>infoB_ok (BT.get_all T id h t i (by rw[←hT];exact hi))
theorem plain_ok {cx:Cx} {T:BT Sig} (hT:∀f,cx.sig f=T.get f) (h:T.allB (fun n _=>w1u cx.P n) id=true):∀f s,cx.sig f=some s→Plain cx.P f :=
 fun f s hs=>l2v (BT.get_all (p:=fun n _=>w1u cx.P n) T id h f s (by rw[←hT];exact hs))
theorem ext_ok {cx:Cx} {l:List (Nat×Nat)} (hl:∀f,cx.ext f=e2z l f) (h:∀x∈l,p2q cx.P x.1 x.2):∀f k,cx.ext f=some k→p2q cx.P f k:=by
 intro f k hk;rw[hl] at hk;clear hl;induction l with
 | nil=>cases hk
 | cons x r ih =>
  obtain ⟨m,q⟩:=x;simp only[e2z] at hk;cases hb:Nat.beq m f with
  | true =>
   rw[hb] at hk;simp only[cond_true,Option.some.injEq] at hk;have:=Nat.eq_of_beq_eq_true hb;subst this;subst hk;exact h (m,q) (by simp)
  | false =>
   rw[hb] at hk;exact ih (fun x hx=>h x (by simp[hx])) hk
end Go.Flat
end
section
namespace Go.Flat
theorem tif_dec {α:Type} (p:Prop) [Decidable p] (x y:α):tif (decide p) x y=if p then x else y:=by
 by_cases h:p<;>simp[h]
theorem tif_not {α:Type} (b:Bool) (x y:α):tif (!b) x y=tif b y x:=by cases b<;>rfl
theorem f1m {α:Type} (a b:Bool) (x y:α):tif (a&&b) x y=tif a (tif b x y) y:=by cases a<;>rfl
theorem w64 {x:Int} (h : -9223372036854775808≤x) (h':x≤9223372036854775807):IntKind.wrap .i64 x=x:=IntWalk.i64_in x ⟨h,h'⟩
theorem wu64 {x:Int} (h:0≤x) (h':x≤18446744073709551615):IntKind.wrap .u64 x=x:=IntWalk.u64_in x ⟨h,h'⟩
theorem wu8 {x:Int} (h:0≤x) (h':x≤255):IntKind.wrap .u8 x=x:=IntWalk.u8_in x ⟨h,h'⟩
theorem l0l {a b:Int} (h:0≤a):Int.tdiv a b=a / b:=Int.tdiv_eq_ediv_of_nonneg h
theorem g0d {a b:Int} (h:0≤a):Int.tmod a b=a % b:=Int.tmod_eq_emod_of_nonneg h
def valI (l:List Int):Int:=l.foldl (fun v b=>v*256+b) 0
def bytesI (l:List UInt8):List Int:=l.map fun c=>(c.toNat:Int)
def toB (l:List Int):List UInt8:=l.map fun y=>UInt8.ofNat (Int.toNat y)
end Go.Flat
end
section
namespace Go.Flat
open Go.RowKit (Below)
open Go.ChangeShapes Go.WideShapes
section
variable {H:Type} {enc:TypeId×Value→H} {P:Program} {W W':World}
def z0a (P:Program) (ts:List TypeId):Bool:=ts.all fun t=>P.readableRec t&&decide (t<P.types.size)
theorem k2i (hl:laidOutB P=true) (hb:Below W.heap.size W W') {sp:Nat→Bool}:∀ {ts:List TypeId} {vs:List Value} {ds:List (DataW H)} {ps:List MemPlace},z0a P ts=true→DataW.TrodAll enc P W 0 (fun _=>true) true ts vs ds ps →
  (∀p∈ps,sp p.block=true)→DataW.TrodAll enc P W' 0 sp true ts vs ds ps:=by
 intro ts;induction ts with
 | nil=>intro vs ds ps _ h _;obtain ⟨rfl,rfl,rfl⟩:=trodAll_nil h;exact rfl
 | cons t ts ih =>
  intro vs ds ps hr h hsp;have hlt:=h.lt;obtain ⟨v,vs,d,ds,p,q,rfl,rfl,rfl,h1,h2⟩:=trodAll_cons h;simp only[z0a,List.all_cons,Bool.and_eq_true,decide_eq_true_eq] at hr;refine ⟨p,q,?_,ih hr.2 h2 (fun x hx=>hsp x (by simp[hx])),rfl⟩;exact WideElems.Trod_stays hl hr.1.1 hr.1.2 h1 (fun x hx=>hb.same (hlt x (by simp[hx]))) (fun x hx=>hsp x (by simp[hx]))
theorem post_law {f:Func} {s:ChangeSpec} {args:Array Value} {ds:List (DataW H)} {ps:List MemPlace} {tb:TypeId} (hl:laidOutB P=true) (hr:z0a P f.params.toList=true) (hv:s.vars=[])
  (hs:s.fn H ds = { results:=[.lit (.bool true)],args:=ds }) (ht:f.resultTypes = #[tb]) (hu:P.underlying tb=some .bool)
  (h:DataW.TrodAll enc P W 0 (fun _=>true) true f.params.toList args.toList ds ps) (hz:W.noneFrozen ps) (hb:Below W.heap.size W W') :
  s.post enc P f false true false false W args (.bool true) W':=by
 have hlt:=h.lt;have hW:DataW.Whole enc P f.params.toList s.vars false W args.toList ds [] (ps++[]):=⟨ps,[],h,by rw[hv];rfl,rfl,by rw[List.append_nil];exact hz,fun e=>by cases e⟩;have hall:∀sp:Nat→Bool,(∀p∈ps++[],sp p.block=true)→DataW.TrodAll enc P W' 0 sp true f.params.toList args.toList (s.fn H (ds++[])).args ps:=by
  intro sp hsp;rw[List.append_nil,hs];exact k2i hl hb hr h fun p hp=>hsp p (by simp[hp])
 have hres:∀(b:Nat) (sp:Nat→Bool) (hd:Bool),DataW.TrodAll enc P W' b sp hd f.resultTypes.toList ((Value.bool true).resultList f.resultTypes.size) (s.fn H (ds++[])).results []:=by
  intro b sp hd;rw[List.append_nil,hs,ht];exact ⟨[],[],⟨1,by simp[DataW.trod,hu,Value.cells]⟩,rfl,rfl⟩
 have hvars:∀sp:Nat→Bool,DataW.TrodVars enc P W' sp s.vars (s.fn H (ds++[])).vars []:=by
  intro sp;rw[List.append_nil,hs,hv];rfl
 have hin:∀p∈ps++[],p.block<W.heap.size:=fun p hp=>hlt p (by simpa using hp)
 refine ⟨ds,[],ps++[],[],ps,[],hW,hres _ _ _,hall _ fun p hp=>by simpa using hin p hp,hvars _,World.keptBut_mono (fun p hp=>⟨hp,?_⟩) (hb.frame (· ∈ ps++[])),fun _=>⟨?_,_,_,([]++ps)++[],⟨[]++ps,[],trodAll_append (hall _ fun _ _=>rfl) (hres _ _ _),hvars _,rfl,?_,fun e=>by cases e⟩,?_⟩⟩
 ·exact .inr (by simpa using hp)
 ·intro j t r h1 h2;rw[ht] at h1 h2;have hj:j=0:=by
   rcases Nat.eq_zero_or_pos j with q | q
   ·exact q
   ·rw[Array.getElem?_eq_none (by simp;omega)] at h1;cases h1
  subst hj;simp at h1;subst h1;have h3:r = .bool true:=by
   simp[Value.resultList] at h2;exact h2.symm
  subst h3;simp[Value.okWide,hu,Cell.okWide,Cell.ok]
 ·intro b off hp;have hp':MemPlace.cell b off∈ps:=by simpa using hp
  rw[hb.frozen (hlt _ hp')];exact hz b off hp'
 ·intro p hp _
  simpa using hp
end
theorem args_nil {P:Program} {W:World} {F:Fz}:RdB P (tupU []) () W F [] (cat []):=rfl
theorem q0y {P:Program} {W:World} {F:Fz} {t:Ty} {ts:List Ty} {x:El t} {xs:El (tupU ts)} {v:Value} {vs:List Value} (hf:formed t v) (hx:Rd P t x W F (one v)) (h:RdB P (tupU ts) xs W F [] (cat vs)) :
  RdB P (tupU (t::ts)) ((x,xs):El (tupU (t::ts))) W F [] (cat (v::vs)):=by
 refine ⟨[],[],rfl,RdB.congr t (k0t hf.2.2) (Rd.toB t hx),?_⟩;rw[m0m hf.2.2];exact h
end Go.Flat
end
section
namespace Go.Flat
open Go.RowKit (Below)
open Go.ChangeShapes Go.WideShapes
def litP:(c:Ty)→(DataW Unit→Option (El c))×(List (DataW Unit)→Option (El c))
 | .unit=>(fun _=>none,fun ds=>match ds with | []=>some () | _=>none)
 | .pair a b=>(fun _=>none,fun ds=>match ds with | d::r=>((litP a).1 d).bind fun x=>((litP b).2 r).map fun y=>(x,y) | []=>none)
 | .wrap e=>(fun d=>match d with | .agg ds=>(litP e).2 ds | _=>none,fun ds=>match ds with | [.agg ds']=>(litP e).2 ds' | _=>none)
 | .int k=>(fun d=>match d with | .lit (.int k' n)=>if k=k' then some n else none | _=>none,fun ds=>match ds with | [.lit (.int k' n)]=>if k=k' then some n else none | _=>none)
 | .bool=>(fun d=>match d with | .lit (.bool b)=>some b | _=>none,fun ds=>match ds with | [.lit (.bool b)]=>some b | _=>none)
 | _=>(fun _=>none,fun _=>none)
section
variable {P:Program} {w:World} {F:Fz}
theorem e2r:∀(c:Ty) (d:DataW Unit) (x:El c),(∀a b,c ≠ .pair a b)→c ≠ .unit→(litP c).2 [d]=some x→(litP c).1 d=some x:=by
 intro c d x h1 h2 h;cases c with
 | unit=>exact absurd rfl h2
 | pair a b=>exact absurd rfl (h1 a b)
 | wrap e =>
  simp only[litP] at h ⊢;split at h
  ·rename_i ds' e';injection e' with e' _;subst e';exact h
  ·cases h
 | int k =>
  simp only[litP] at h ⊢;split at h
  ·rename_i k' n e';injection e' with e' _;subst e';exact h
  ·cases h
 | bool =>
  simp only[litP] at h ⊢;split at h
  ·rename_i b e';injection e' with e' _;subst e';exact h
  ·cases h
 | _=>simp[litP] at h
def LitOk (P:Program) (w:World) (F:Fz) (self:TypeId→Ty→Bool):Prop :=
 ∀t c,self t c=true→∀n (cs:List Value) (d:DataW Unit) (p:List MemPlace),DataW.trod (fun _=>()) P w 0 (fun _=>true) false n t cs=some (d,p)→∀x:El c,(litP c).1 d=some x→cs.length=width c∧Rd P c x w F (fun j=>cs[j]?)
def p2m (self:TypeId→Ty→Bool):Prop:=∀t c,self t c=true→(∀a b,c ≠ .pair a b)∧c ≠ .unit
theorem d1d (d:Nat):p2m (readB P d):=by
 intro t c h;cases d with
 | zero=>cases h
 | succ d =>
  constructor
  ·rintro a b rfl;unfold readB at h;split at h<;>simp_all
  ·rintro rfl;unfold readB at h;split at h<;>simp_all
theorem j2b {self:TypeId→Ty→Bool} (hs:p2m self) (ih:LitOk P w F self) {n:Nat}:∀(fs:List Field) (e:Ty) (off:Nat) (cs:List Value) (ds:List (DataW Unit)) (x:El e),
  e0z P self fs e off=true→off+width e≤cs.length→ds.length=fs.length→(litP e).2 ds=some x →
  (∀(i:Nat) f d,fs[i]? = some f→ds[i]? = some d→∃p,DataW.trod (fun _=>()) P w 0 (fun _=>true) false n f.type ((cs.drop f.offset).take (P.cellsOf f.type))=some (d,p)) →
   Rd P e x w F (fun j=>cs[off+j]?):=by
 intro fs;induction fs with
 | nil =>
  intro e off cs ds x h _ _ _ _;cases e<;>(try (cases h));exact trivial
 | cons f r ihf =>
  intro e off cs ds x h hlen hds hx hf;cases ds with
  | nil=>simp at hds
  | cons d ds =>
  have step:∀(c:Ty) (y:El c),Nat.beq f.offset off=true→q0m P f.type c=true→self f.type c=true→off+width c≤cs.length→(litP c).1 d=some y→Rd P c y w F (fun j=>cs[off+j]?):=by
   intro c y k1 k2 k3 k4 k5;have k1:=Nat.eq_of_beq_eq_true k1;obtain ⟨p,hy⟩:=hf 0 f d rfl rfl;rw[k1,f0f k2] at hy;obtain ⟨_,h2⟩:=ih _ _ k3 _ _ _ _ hy y k5;refine Rd.congr c (fun j hj => ?_) h2;rw[List.getElem?_take,if_pos hj,List.getElem?_drop]
  cases r with
  | nil =>
   simp only[e0z,Bool.and_eq_true] at h;have:ds=[]:=by cases ds with | nil=>rfl | cons a b=>simp at hds
   subst this;obtain ⟨n1,n2⟩:=hs _ _ h.2.2;exact step _ x h.1 h.2.1 h.2.2 hlen (e2r _ d x n1 n2 hx)
  | cons g r =>
   cases e with
   | pair a b =>
    simp only[e0z,Bool.and_eq_true] at h;simp only[width] at hlen;simp only[litP] at hx;cases h1:(litP a).1 d with
    | none=>rw[h1] at hx;cases hx
    | some y =>
     rw[h1] at hx;simp only[Option.bind_some,Option.map_eq_some_iff] at hx;obtain ⟨z,h2,rfl⟩:=hx;refine ⟨step a y h.1 h.2.1 h.2.2.1 (by omega) h1,?_⟩;have:=ihf b (off+width a) cs ds z h.2.2.2 (by omega) (by simpa using hds) h2 (fun i f' d' hi hd=>hf (i+1) f' d' (by simpa using hi) (by simpa using hd));exact Rd.congr b (fun j _=>by rw[Nat.add_assoc]) this
   | _=>simp[e0z] at h
theorem n2h {self:TypeId→Ty→Bool} (hs:p2m self) (ih:LitOk P w F self) {el:TypeId} {m:Nat}:∀(n:Nat) (e:Ty) (i:Nat) (cs:List Value) (ds:List (DataW Unit)) (x:El e),
  f0r P self el n e=true→i*P.cellsOf el+width e≤cs.length→ds.length=n→(litP e).2 ds=some x →
  (∀(j:Nat) d,ds[j]? = some d→∃p,DataW.trod (fun _=>()) P w 0 (fun _=>true) false m el ((cs.drop ((i+j)*P.cellsOf el)).take (P.cellsOf el))=some (d,p)) →
   Rd P e x w F (fun j=>cs[i*P.cellsOf el+j]?):=by
 intro n;induction n with
 | zero =>
  intro e i cs ds x h _ _ _ _;cases e<;>(try (cases h));exact trivial
 | succ n ihn =>
  intro e i cs ds x h hlen hds hx hf;cases ds with
  | nil=>simp at hds
  | cons d ds =>
  have step:∀(c:Ty) (y:El c),q0m P el c=true→self el c=true→(litP c).1 d=some y→Rd P c y w F (fun j=>cs[i*P.cellsOf el+j]?):=by
   intro c y k2 k3 k5;obtain ⟨p,hy⟩:=hf 0 d rfl;obtain ⟨_,h2⟩:=ih _ _ k3 _ _ _ _ hy y k5;refine Rd.congr c (fun j hj => ?_) h2;rw[List.getElem?_take,if_pos (by rw[f0f k2];exact hj),List.getElem?_drop,Nat.add_zero]
  cases n with
  | zero =>
   simp only[f0r,Bool.and_eq_true] at h;have:ds=[]:=by cases ds with | nil=>rfl | cons a b=>simp at hds
   subst this;obtain ⟨n1,n2⟩:=hs _ _ h.2;exact step _ x h.1 h.2 (e2r _ d x n1 n2 hx)
  | succ n =>
   cases e with
   | pair a b =>
    simp only[f0r,Bool.and_eq_true] at h;have hc:=f0f h.1;simp only[width] at hlen;simp only[litP] at hx;cases h1:(litP a).1 d with
    | none=>rw[h1] at hx;cases hx
    | some y =>
     rw[h1] at hx;simp only[Option.bind_some,Option.map_eq_some_iff] at hx;obtain ⟨z,h2,rfl⟩:=hx;have e1:(i+1)*P.cellsOf el=i*P.cellsOf el+width a:=by rw[Nat.succ_mul,hc]
     refine ⟨step a y h.1 h.2.1 h1,?_⟩;have:=ihn b (i+1) cs ds z h.2.2 (by omega) (by simpa using hds) h2 (fun j d' hd=>by
      have:=hf (j+1) d' (by simpa using hd)
      rwa [show i+(j+1)=i+1+j by omega] at this)
     refine Rd.congr b (fun j _ => ?_) this;rw[e1,Nat.add_assoc]
   | _=>simp[f0r] at h
theorem lit_ok:∀d:Nat,LitOk P w F (readB P d):=by
 intro d;induction d with
 | zero=>intro t c h;cases h
 | succ d ih =>
  intro t c h n cs dd p hy x hx;unfold readB at h;split at h
  ·rename_i hu;obtain ⟨b,rfl,e⟩:=DataW.trod_bool hu hy;injection e with e1 _;subst e1;simp only[litP,Option.some.injEq] at hx;subst hx;exact ⟨rfl,rfl⟩
  ·rename_i k k' hu;obtain ⟨m,rfl,e,_⟩:=DataW.trod_int hu hy;injection e with e1 _;subst e1;have:k=k':=by simpa using h
   subst this;simp only[litP,if_true,Option.some.injEq] at hx;subst hx;exact ⟨rfl,rfl⟩
  ·simp[litP] at hx
  ·simp[litP] at hx
  ·rename_i fs e hu;simp only[Bool.and_eq_true] at h;obtain ⟨xs,m,rfl,e1,hl,hxs,hget⟩:=DataW.trod_struct hu hy;injection e1 with e1 _;subst e1;have hcl:cs.length=width e:=by rw[hl,f0f h.1];rfl
   simp only[litP] at hx;refine ⟨hcl,?_⟩;have:=j2b (F:=F) (d1d d) ih (n:=m) fs.toList e 0 cs (xs.map (·.1)) x h.2 (by omega) (by simp[hxs]) hx (fun i f d' hi hd=>by
    have hi':fs[i]? = some f:=by simpa using hi
    have h1:=hget i f hi';rw[List.getElem?_map] at hd;cases hxi:xs[i]? with
    | none=>rw[hxi] at hd;cases hd
    | some y =>
     rw[hxi] at hd h1;simp only[Option.map_some,Option.some.injEq] at hd;subst hd
     exact ⟨y.2,h1⟩)
   exact Rd.congr e (fun j _=>by rw[Nat.zero_add]) this
  ·rename_i m el e hu;simp only[Bool.and_eq_true] at h;obtain ⟨xs,q,rfl,e1,hl,hxs,hget⟩:=DataW.trod_array hu hy;injection e1 with e1 _;subst e1;have hcl:cs.length=width e:=by rw[hl,f0f h.1];rfl
   simp only[litP] at hx;refine ⟨hcl,?_⟩;have:=n2h (F:=F) (d1d d) ih (m:=q) m e 0 cs (xs.map (·.1)) x h.2 (by omega) (by simp[hxs]) hx (fun j d' hd=>by
    rw[List.getElem?_map] at hd;cases hxi:xs[j]? with
    | none=>rw[hxi] at hd;cases hd
    | some y =>
     have hlt:j<xs.length:=(List.getElem?_eq_some_iff.1 hxi).1;have h1:=hget j (by omega);rw[hxi] at hd h1;simp only[Option.map_some,Option.some.injEq] at hd;subst hd;rw[Nat.zero_add]
     exact ⟨y.2,h1⟩)
   exact Rd.congr e (fun j _=>by rw[Nat.zero_mul,Nat.zero_add]) this
  ·cases h
theorem c2r:∀ {l:List (Nat×((t:Ty)×El t))} {g:Nat} {x:(t:Ty)×El t},s1x l g=some x→(g,x)∈l:=by
 intro l;induction l with
 | nil=>intro g x h;cases h
 | cons y l ih =>
  intro g x h;obtain ⟨m,z⟩:=y;unfold s1x at h;cases hb:Nat.beq m g with
  | true =>
   rw[hb] at h;simp only[cond_true,Option.some.injEq] at h;subst h;rw[Nat.eq_of_beq_eq_true hb];simp
  | false =>
   rw[hb] at h;exact List.mem_cons_of_mem _ (ih h)
theorem laid_one {l:List (String×DataW Unit)} (h:∃ps,DataW.LaidVars P w l ps) {nm:String} {d:DataW Unit} (hm:(nm,d)∈l) {g:Nat} {t:TypeId} (hg:P.globalNamed nm=some g) (ht:(P.globals[g]?).map (·.type)=some t)
  {c:Ty} {dep:Nat} (hB:readB P dep t c=true) {x:El c} (hx:(litP c).1 d=some x) (hw:0<width c):g<w.heap.size∧Rd P c x w F (mem w g 0):=by
 obtain ⟨ps,h⟩:=h;induction l generalizing ps with
 | nil=>cases hm
 | cons y l ih =>
  obtain ⟨n',d'⟩:=y;obtain ⟨g',t',cs,fuel,p,q,k1,k2,k3,k4,k5,_⟩:=h;rcases List.mem_cons.1 hm with e | hm
  ·injection e with e1 e2;subst e1 e2;rw[hg] at k1;injection k1 with k1;subst k1;rw[ht] at k2;injection k2 with k2;subst k2;obtain ⟨z1,z2⟩:=lit_ok (F:=F) dep t c hB fuel cs.toList d p k4 x hx;have hv:∀j,w.cell? ⟨g,j,none⟩=cs[j]? := fun j=>World.var?_cell hg k3 j
   refine ⟨?_,Rd.congr c (fun j _ => ?_) z2⟩
   ·have h0:=hv 0
    have : (0 : Nat) < cs.size := by have : cs.toList.length = cs.size := by simp
                                     omega
    rw[Array.getElem?_eq_getElem this] at h0;unfold World.cell? at h0;split at h0
    ·rename_i hb;exact e0w? hb
    ·cases h0
   ·show w.cell? ⟨g,0+j,none⟩=_;rw[Nat.zero_add,hv j];simp
  ·exact ih hm q k5
end
end Go.Flat
end
