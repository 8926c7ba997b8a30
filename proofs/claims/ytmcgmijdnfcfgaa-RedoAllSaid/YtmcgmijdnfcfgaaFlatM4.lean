/-
 The flat reading and its soundness, merged part 4 of 4 (TT2, TX, TU, TV, TW, X, Y, Z, HB, HC, HD, HE).
-/
import Derived.Test.YtmcgmijdnfcfgaaFlatM3
import Derived.RangeFuncIn
import Derived.RangeFuncRecord
import Derived.Scope
import Derived.RangeFuncLeaves
import Derived.ProofKit
import Derived.OpenShut
import Derived.IntWalk
import Derived.ChangeArms
import Derived.MakeChecks
import Derived.Shelf.Strings.Builder1
set_option linter.unusedVariables false
set_option linter.unusedSimpArgs false
section
namespace Go.Flat
open Go.RowKit (Below)
theorem b1t {a b:List Nat} {n:Nat}:hasN (a++b) n=(hasN a n||hasN b n):=by
 induction a with
 | nil=>rfl
 | cons m r ih=>simp only[List.cons_append,hasN,ih,Bool.or_assoc]
theorem w0j {nt:Nat} {K L:List Nat}:∀c:Code,noRF c=true→b0y nt K c=true→r0m L c=true→b0y nt (K++L) c=true:=by
 intro c;induction c with
 | region id ops draw =>
  intro _ h1 h2;simp only[b0y,z0y,r0m] at h1 h2 ⊢;rw[List.all_eq_true] at h1 h2 ⊢;intro o ho;have h1:=h1 o ho;have h2:=h2 o ho;split
  ·rename_i d hd;rw[hd] at h1 h2;simp only[Bool.and_eq_true,Bool.not_eq_true'] at h1 h2 ⊢;exact ⟨h1.1,by rw[b1t,h1.2,h2];rfl⟩
  ·rfl
 | seq a b iha ihb =>
  intro h0 h1 h2;simp only[noRF,b0y,r0m,Bool.and_eq_true] at h0 h1 h2 ⊢;exact ⟨iha h0.1 h1.1 h2.1,ihb h0.2 h1.2 h2.2⟩
 | cond c a b iha ihb =>
  intro h0 h1 h2;simp only[noRF,b0y,r0m,Bool.and_eq_true] at h0 h1 h2 ⊢;exact ⟨iha h0.1 h1.1 h2.1,ihb h0.2 h1.2 h2.2⟩
 | block id a ih=>intro h0 h1 h2;exact ih h0 h1 h2
 | loop a ih=>intro h0 h1 h2;exact ih h0 h1 h2
 | rangeFunc g ps a b iha ihb=>intro h0;cases h0
 | scope a _=>intro h0;cases h0
 | _=>intro _ _ _;rfl
def x0b:List Nat→List Value→Array Value→Array Value
 | p::ps,v::vs,t=>x0b ps vs (t.setIfInBounds p v)
 | _,_,t=>t
theorem putPs_eq:∀(ps:List Nat) (vs:List Value) (t:Array Value),(ps.zip vs).foldl (fun t (p,v)=>t.setIfInBounds p v) t=x0b ps vs t:=by
 intro ps;induction ps with
 | nil=>intro vs t;cases vs<;>rfl
 | cons p ps ih =>
  intro vs t;cases vs with
  | nil=>rfl
  | cons v vs=>exact ih vs _
theorem e1v:∀(ps:List Nat) (vs:List Value) (t:Array Value),(x0b ps vs t).size=t.size:=by
 intro ps;induction ps with
 | nil=>intro vs t;cases vs<;>rfl
 | cons p ps ih =>
  intro vs t;cases vs with
  | nil=>rfl
  | cons v vs=>show (x0b ps vs _).size=_;rw[ih];simp
theorem b1a:∀(ps:List Nat) (vs:List Value) (t:Array Value) (s:Nat),s ∉ ps→(x0b ps vs t).getD s undef=t.getD s undef:=by
 intro ps;induction ps with
 | nil=>intro vs t s _;cases vs<;>rfl
 | cons p ps ih =>
  intro vs t s hs;cases vs with
  | nil=>rfl
  | cons v vs =>
   show (x0b ps vs _).getD s undef=_;rw[ih vs _ s (fun h=>hs (List.mem_cons_of_mem _ h))];simp only[Array.getD_eq_getD_getElem?,Array.getElem?_setIfInBounds];rw[if_neg (fun e=>hs (by rw[←e];exact List.mem_cons_self))]
section
variable {cx:Cx} {call:Oracle cx} {fx:Hints} {W0 W W':World} {F0 F F':Fz} {O0:List Nat} {E E':EnvM} {h:Heap} {a:Act} {R:Type} {nt:Slots} {st:St}
theorem parK_rd:∀(ps:List Nat) (e:Ty) (y:El e) (t t':List (Nat×V)) (vs:List Value) (tm:Array Value),parK ps e y t=some t'→d0k cx.P e y W F vs→(∀p∈ps,p<tm.size)→(∀s,RdV cx.P W F E (getT t s) (tm.getD s undef)) →
  vs.length=ps.length∧∀s,RdV cx.P W F E (getT t' s) ((x0b ps vs tm).getD s undef):=by
 intro ps;induction ps with
 | nil =>
  intro e y t t' vs tm hk hv _ ht;cases e with
  | unit =>
   simp only[parK,Option.some.injEq] at hk;subst hk;have:vs=[]:=hv;subst this;exact ⟨rfl,ht⟩
  | _=>cases hk
 | cons p ps ih =>
  intro e y t t' vs tm hk hv hp ht;cases e with
  | pair a b =>
   simp only[parK] at hk;obtain ⟨v,r,rfl,f1,f2,f3⟩:=hv;have hv1:RdV cx.P W F E (toV a y.1) v:=by
    obtain ⟨ws,w1,w2,w3⟩:=h0x (E:=E) a y.1 _ f2;exact k1o f1 ⟨ws,w1,w2,w3⟩ fun j _=>rfl
   obtain ⟨k1,k2⟩:=ih b y.2 _ t' r (tm.setIfInBounds p v) hk f3 (fun q hq=>by simpa using hp q (List.mem_cons_of_mem _ hq)) (fun s=>by
    simp only[getT];have hlt:=hp p List.mem_cons_self;cases hbe:Nat.beq p s with
    | true =>
     have:=Nat.eq_of_beq_eq_true hbe;subst this
     simpa [Array.getD_eq_getD_getElem?,Array.getElem?_setIfInBounds,hlt] using hv1
    | false =>
     have hne:p≠s:=fun e=>by subst e;simp at hbe
     have:=ht s
     simpa [Array.getD_eq_getD_getElem?,Array.getElem?_setIfInBounds,hne] using this)
   exact ⟨by simp[k1],k2⟩
  | _=>cases hk
open Classical in
theorem StRel.rebase {nt':Slots} {a':Act} {W2:World} (hs:StRel cx W0 F0 O0 nt st a W F E) (hl:Later W F W2 F) (hsz:W2.heap.size=W.heap.size) (hsame:∀b,a0p st.h E b→W2.heap[b]? = W.heap[b]?)
  (ht:a'.tmps=a.tmps) (hn:nt'.nt=nt.nt) (hk:∀i∈nt'.K,a.tmps.getD i undef=nt'.kv i) (hI:nt'.I E) (hd:a'.defers=[]) :
  ∃O1:List Nat,(∀b,b∈O1↔a0p st.h E b)∧StRel cx W2 F O1 nt' st a' W2 F E:=by
 have hO:∀b,b∈(List.range W.heap.size).filter (fun b=>decide (a0p st.h E b))↔a0p st.h E b:=fun b=>by
  simp only[List.mem_filter,List.mem_range,decide_eq_true_eq];exact ⟨fun h=>h.2,fun h=>⟨hs.hr.lt b h,h⟩⟩
 exact ⟨_,hO,hs.hr.world hl (fun b hb=>⟨hsame b hb,fun h=>h⟩),fun b hb=>by rw[hsz];exact hs.hF b hb,fun s=>by rw[ht];exact (hs.t s).later hl (EnvLe.refl E),Later.refl W2 F,fun _ _ _=>rfl,fun b hb => .inl ((hO b).2 hb),fun _ hb => .inl hb,
  by rw[ht,hn];exact hs.size,fun i hi=>by rw[ht];exact hk i hi,⟨fun _=>hd,by rw[hd];exact .nil⟩,hI⟩
theorem g0v {l:Nat} {o:Obj} (hl:¬F l):Later W F (W.putObj l o) F :=
 ⟨rfl,rfl,rfl,by simp,fun b hb=>World.putObj_heap_other (fun e=>hl (e ▸ hb)),fun _ h=>h⟩
theorem StRel.dead {l:Nat} {o:Obj} (hs:StRel cx W0 F0 O0 nt st a W F E) (h0:W0.heap.size≤l) (hF:¬F l) (hL:¬a0p st.h E l) (hd:W.heap[l]? ≠ some (.deferred (some []))):StRel cx W0 F0 O0 nt st a (W.putObj l o) F E:=by
 have hl:=g0v (W:=W) (o:=o) hF;refine ⟨hs.hr.world hl (fun b hb=>⟨World.putObj_heap_other (fun e=>hL (e ▸ hb)),fun h=>h⟩),fun b hb=>by simpa using hs.hF b hb,fun s=>(hs.t s).later hl (EnvLe.refl E),hs.later.trans hl,fun b hb hO => ?_,hs.own,hs.fz,hs.size,hs.keep,⟨hs.defers.1,hs.defers.2.turn fun D hD _ h1 h2 h3=>⟨World.putObj_heap_other (fun e=>hd (e ▸ h3)),h1,h2⟩⟩,hs.env⟩;rw[World.putObj_heap_other (by omega)];exact hs.frame b hb hO
theorem KeepRel.dead {D:Nat→Nat} {l:Nat} {o:Obj} {live:List (Nat×Ty)} {x:El (b0d live)} {O:List Nat} (hs:KeepRel cx W0 F0 O0 nt D live x a W F O) (h0:W0.heap.size≤l) (hF:¬F l) (hL:l ∉ O) (hd:W.heap[l]? ≠ some (.deferred (some []))):KeepRel cx W0 F0 O0 nt D live x a (W.putObj l o) F O:=by
 have hl:=g0v (W:=W) (o:=o) hF;refine ⟨fun b hb=>by simpa using hs.hF b hb,hs.later.trans hl,fun b hb hO => ?_,hs.own,hs.fz,hs.size,hs.keep,⟨hs.defers.1,hs.defers.2.turn fun D hD _ h1 h2 h3=>⟨World.putObj_heap_other (fun e=>hd (e ▸ h3)),h1,h2⟩⟩,hs.forms,RdB.later (b0d live) hs.rd hl (fun b hb=>World.putObj_heap_other (fun e=>hL (e ▸ hb))),hs.nodup,hs.free⟩;rw[World.putObj_heap_other (by omega)];exact hs.frame b hb hO
def r0e (cx:Cx) (call:Oracle cx) (fx:Hints) (W0:World) (F0:Fz) (O0:List Nat) (nt:Slots) (rd:Option Nat) (Rf:Type) (ret:St→Option Rf) (c:Code):Prop :=
 ∀(R:Type) (kr:Rf→Option R) (st:St) (k:Exit→St→Option R) (r:R) (a:Act) (W:World) (F:Fz) (E:EnvM) (Q:Exit→Act→World→Prop),
  b0y nt.nt nt.K c=true→StRel cx W0 F0 O0 nt st a W F E→evC cx call fx Rf ret c R kr st k=some r →
  (∀e st' a' W' F' E',k e st'=some r→StRel cx W0 F0 O0 nt st' a' W' F' E'→Q e a' W') →
  (∀y st' a' W' F' E',kr y=some r→ret st'=some y→StRel cx W0 F0 O0 nt st' a' W' F' E'→Q .ret a' W')→c.wpIn (Rnd rd) 0 cx.P Q a W
theorem a1x {D:Nat→Nat} {Rf:Type} {ret:St→Option Rf} {asg body:Code} {live:List (Nat×Ty)} {e:Ty} {ps:Array Nat} {l D0:Nat} {fn:FuncId} {x z:El (b0d live)} {A:World} {FA:Fz} {O:List Nat} {y:El e} {vs:List Value}
  (hasg:∀(W0:World) (F0:Fz) (O0:List Nat) (nt:Slots),CallSound cx call W0 F0→l0k fx.top nt→r0e cx call fx W0 F0 O0 nt (some l) Rf ret asg)
  (hbody:∀(W0:World) (F0:Fz) (O0:List Nat) (nt:Slots),CallSound cx call W0 F0→l0k fx.top nt→r0e cx call fx W0 F0 O0 nt (some l) Rf ret body)
  (hc:CallSound cx call W0 F0) (hI:Pins fx.top nt D) (hps:∀p∈ps.toList,p<nt.nt∧p ∉ nt.K∧p ∉ live.map (·.1))
  (hba:b0y nt.nt (nt.K++live.map (·.1)) asg=true) (hbb:b0y nt.nt (nt.K++live.map (·.1)) body=true)
  (hs:KeepRel cx W0 F0 O0 nt D live x a A FA O)
  (hl:A.heap[l]? = some (.loop { state := .ready,pending:=none,fn:=fn,tmps:=a.tmps,params:=ps,assign:=asg,body:=body,defers:=D0 })) (hl0:W0.heap.size≤l) (hlF:¬FA l) (hlO:l ∉ O)
  (hv:d0k cx.P e y A FA vs)
  (hk:(h0s fx live x fun st=>(parK ps.toList e y st.t).bind fun t=>evC cx call fx Rf ret asg _ (fun _=>none) { st with t:=t } (onN fun st=>evC cx call fx Rf ret body _ (fun _=>none) st (onN fun st=>j0v cx call fx st live)))=some z)
  {R:Ending→World→Prop} (hR:∀A' FA' O',KeepRel cx W0 F0 O0 nt D live z a A' FA' O'→A'.heap[l]? = A.heap[l]? → Later A FA A' FA' →
   (∀b,b<A.heap.size→b ∉ O→A'.heap[b]? = A.heap[b]?)→(∀b∈O',b∈O∨A.heap.size≤b)→(∀b,FA' b→FA b∨b∈O∨A.heap.size≤b)→R (.returned (.bool true)) A') :
  YieldAt Fence.wide 0 cx.P l vs.toArray A R:=by
 obtain ⟨st,E1,hk,hst,hlive⟩:=q0p hk hI.to hs;cases hpk:parK ps.toList e y st.t with
 | none=>rw[hpk] at hk;cases hk
 | some t1 =>
 rw[hpk] at hk;simp only[Option.bind_some] at hk;have hlt:l<A.heap.size:=(Array.getElem?_eq_some_iff.1 hl).1;have hcA:CallSound cx call A FA:=hc.later hs.later
 let nt':Slots:=⟨nt.nt,nt.K++live.map (·.1),fun i=>a.tmps.getD i undef,nt.I,nt.up,false⟩
 obtain ⟨O1,hO1,hs1⟩:=hst.rebase (nt':=nt') (a' := { tmps:=a.tmps,defers:=[] }) (Later.refl A FA) rfl (fun _ _=>rfl) rfl rfl (fun i _=>rfl) hst.env rfl;obtain ⟨hvl,ht1⟩:=parK_rd ps.toList e y st.t t1 vs a.tmps hpk hv (fun p hp=>by rw[hs.size];exact (hps p hp).1) hst.t;have hs2:StRel cx A FA O1 nt' { st with t:=t1 } { tmps:=x0b ps.toList vs a.tmps,defers:=[] } A FA E1 :=
  ⟨hs1.hr,hs1.hF,ht1,hs1.later,hs1.frame,hs1.own,hs1.fz,by rw[e1v];exact hs1.size,fun i hi=>by
   rw[b1a _ _ _ _ (fun hp=>by
    rcases List.mem_append.1 hi with h | h
    ·exact (hps i hp).2.1 h
    ·exact (hps i hp).2.2 h)],hs1.defers,hs1.env⟩
 have hl1:l ∉ O1:=fun h=>hlO (hlive l ((hO1 l).1 h))
 have hsz:vs.toArray.size=ps.size:=by simpa using hvl
 have hy:=run_yield (P:=cx.P) (args:=vs.toArray) hl hsz;have hfold:(ps.zip vs.toArray).foldl (fun tmps (t,a)=>tmps.setIfInBounds t a) a.tmps=x0b ps.toList vs a.tmps:=by
  rw[←putPs_eq,←Array.foldl_toList,Array.toList_zip]
 dsimp only at hy;rw[hfold] at hy;refine ⟨fn,_,asg,body,hy,roundIn_of_wpIn trivial ?_⟩;refine hasg A FA O1 nt' hcA hI.carry _ _ _ _ z _ A FA E1 _ hba hs2 hk (fun ex st' a' W' F' E' h1 h2 => ?_) (fun y st' a' W' F' E' h1=>by cases h1);cases ex with
 | normal =>
  simp only[onN] at h1;have hlW:W'.heap[l]? = A.heap[l]? := h2.frame l hlt hl1;have hbr:=run_beginRound (P:=cx.P) (hlW.trans hl) rfl;have nl':∀b,b<A.heap.size→b ∉ O→¬a0p st'.h E' b:=fun b hb hbO hat=>by
   rcases h2.own b hat with h | h
   ·exact hbO (hlive b ((hO1 b).1 h))
   ·omega
  have nf':∀b,b<A.heap.size→b ∉ O→¬FA b→¬F' b:=fun b hb hbO hf hat=>by
   rcases h2.fz b hat with h | h | h
   ·exact hf h
   ·exact hbO (hlive b ((hO1 b).1 h))
   ·omega
  refine ⟨_,hbr,?_⟩;have hlp:=g0v (W:=W') (F:=F') (o := .loop { state := .busy,pending:=none,fn:=fn,tmps:=a.tmps,params:=ps,assign:=asg,body:=body,defers:=D0 }) (nf' l hlt hlO hlF);obtain ⟨O2,hO2,hs3⟩:=h2.rebase (nt':=nt') (a':=a') hlp (by simp) (fun b hb=>World.putObj_heap_other (fun e=>nl' l hlt hlO (e ▸ hb))) rfl rfl (fun i hi=>h2.keep i hi) h2.env (h2.defers.1 rfl);refine hbody _ F' O2 nt' (hcA.later (h2.later.trans hlp)) hI.carry _ _ _ _ z _ _ F' E' _ hbb hs3 h1 (fun ex3 st3 a3 W3 F3 E3 q1 q2 => ?_) (fun y st' a' W' F' E' h1=>by cases h1);cases ex3 with
  | normal =>
   simp only[onN] at q1;have hlt':l<W'.heap.size:=Nat.lt_of_lt_of_le hlt h2.later.size;have hAW:A.heap.size≤W'.heap.size:=h2.later.size;have hsz2:∀b,b<A.heap.size→b<(W'.putObj l (.loop { state := .busy,pending:=none,fn:=fn,tmps:=a.tmps,params:=ps,assign:=asg,body:=body,defers:=D0 })).heap.size:=fun b hb=>by simp;omega
   have n2:∀b,b<A.heap.size→b ∉ O→b ∉ O2:=fun b hb hbO h=>nl' b hb hbO ((hO2 b).1 h)
   have hl3:W3.heap[l]? = some (.loop { state := .busy,pending:=none,fn:=fn,tmps:=a.tmps,params:=ps,assign:=asg,body:=body,defers:=D0 }) :=
    (q2.frame l (hsz2 l hlt) (n2 l hlt hlO)).trans (World.putObj_heap_same hlt')
   obtain ⟨F4,O4,hk4,hO4,hF4,hl4⟩:=p0u (D:=D) (hcA.later (h2.later.trans hlp)) q2 q1 (fun d hd _=>hI.of E3 q2.env d hd);have own4:∀b∈O4,b∈O∨A.heap.size≤b:=fun b hb=>by
    rcases q2.own b (hO4 b hb) with h | h
    ·rcases h2.own b ((hO2 b).1 h) with h | h
     ·exact .inl (hlive b ((hO1 b).1 h))
     ·exact .inr h
    ·simp at h;exact .inr (by omega)
   have fz4:∀b,F4 b→FA b∨b∈O∨A.heap.size≤b:=fun b hb=>by
    have lv:a0p st'.h E' b→FA b∨b∈O∨A.heap.size≤b:=fun h=>by
     rcases h2.own b h with h | h
     ·exact .inr (.inl (hlive b ((hO1 b).1 h)))
     ·exact .inr (.inr h)
    rcases hF4 b hb with h | h
    ·rcases q2.fz b h with h | h | h
     ·rcases h2.fz b h with h | h | h
      ·exact .inl h
      ·exact .inr (.inl (hlive b ((hO1 b).1 h)))
      ·exact .inr (.inr h)
     ·exact lv ((hO2 b).1 h)
     ·simp at h;exact .inr (.inr (by omega))
    ·rcases q2.own b h with h | h
     ·exact lv ((hO2 b).1 h)
     ·simp at h;exact .inr (.inr (by omega))
   have hlF4:¬F4 l:=fun h=>by
    rcases fz4 l h with h | h | h
    ·exact hlF h
    ·exact hlO h
    ·omega
   have hlO4:l ∉ O4:=fun h=>by
    rcases own4 l h with h | h
    ·exact hlO h
    ·omega
   have her:=run_endRound (P:=cx.P) none hl3;have hl5:=g0v (W:=W3) (o := .loop { state := .ready,pending:=none,fn:=fn,tmps:=a.tmps,params:=ps,assign:=asg,body:=body,defers:=D0 }) hlF4;have same:∀b,b<A.heap.size→b ∉ O→(W3.putObj l (.loop { state := .ready,pending:=none,fn:=fn,tmps:=a.tmps,params:=ps,assign:=asg,body:=body,defers:=D0 })).heap[b]? = A.heap[b]? := fun b hb hbO=>by
    by_cases e:b=l
    ·subst e;rw[World.putObj_heap_same (Array.getElem?_eq_some_iff.1 hl3).1,hl]
    ·rw[World.putObj_heap_other e,q2.frame b (hsz2 b hb) (n2 b hb hbO),World.putObj_heap_other e,h2.frame b hb (fun h=>hbO (hlive b ((hO1 b).1 h)))]
   have hlat:Later A FA (W3.putObj l (.loop { state := .ready,pending:=none,fn:=fn,tmps:=a.tmps,params:=ps,assign:=asg,body:=body,defers:=D0 })) F4 :=
    ((h2.later.trans hlp).trans (q2.later.trans hl4)).trans hl5
   have hslots:c0x live a3=c0x live a:=by
    unfold c0x;refine List.map_congr_left fun p hp => ?_
    exact hk4.keep p.1 (List.mem_append_right _ (List.mem_map_of_mem hp))
   refine ⟨.bool true,_,her,?_⟩;refine hR _ F4 O4 ?_ (same l hlt hlO) hlat same own4 fz4;have hsz0:W0.heap.size≤A.heap.size:=hs.later.size;refine ⟨fun b hb=>by simpa using hk4.hF b hb,hs.later.trans hlat,fun b hb hbO => ?_,fun b hb => ?_,fun b hb => ?_,hs.size,hs.keep,⟨hs.defers.1,hs.defers.2.turn fun D hD _ d1 d2 _=>⟨same D hD d2,fun h => ?_,fun h => ?_⟩⟩,?_,?_,hk4.nodup,hk4.free⟩
   ·refine (same b (by omega) (fun h => ?_)).trans (hs.frame b hb hbO);rcases hs.own b h with h | h
    ·exact hbO h
    ·omega
   ·rcases own4 b hb with h | h
    ·exact hs.own b h
    ·exact .inr (by omega)
   ·rcases fz4 b hb with h | h | h
    ·exact hs.fz b h
    ·exact .inr (hs.own b h)
    ·exact .inr (.inr (by omega))
   ·rcases fz4 D h with h | h | h
    ·exact d1 h
    ·exact d2 h
    ·omega
   ·rcases own4 D h with h | h
    ·exact d2 h
    ·omega
   ·rw[←hslots];exact hk4.forms
   ·rw[←hslots];exact RdB.later (b0d live) hk4.rd hl5 (fun b hb=>World.putObj_heap_other (fun e=>hlO4 (e ▸ hb)))
  | _=>simp[onN] at q1
 | _=>simp[onN] at h1
theorem KeepRel.turn {D:Nat→Nat} {live:List (Nat×Ty)} {x:El (b0d live)} {O bs:List Nat} (hs:KeepRel cx W0 F0 O0 nt D live x a W F O) (ht:Turn bs W F W' F') (hbO:∀b∈bs,b ∉ O) (hb0:∀b∈bs,b∈O0∨W0.heap.size≤b)
  (hds:DefOk W0.heap.size W F (fun b=>b∈O∨b∈bs) a.defers):KeepRel cx W0 F0 O0 nt D live x a W' F' O∧DefOk W0.heap.size W' F' (fun b=>b∈O∨b∈bs) a.defers:=by
 have hsz:=hs.later.size;have hO:∀b∈O,W'.heap[b]? = W.heap[b]? := fun b hb=>ht.same b (RdB.lt (b0d live) hs.rd b hb) (fun h=>hbO b h hb)
 have hd:DefOk W0.heap.size W' F' (fun b=>b∈O∨b∈bs) a.defers:=hds.turn fun D hD _ h1 h2 _=>⟨ht.same D hD fun h=>h2 (.inr h),fun h=>by
  rcases ht.fz D h with h | h
  ·exact h1 h
  ·omega,h2⟩
 refine ⟨⟨fun b hb => ?_,hs.later.trans ht.later,fun b hb hbO => ?_,hs.own,fun b hb => ?_,hs.size,hs.keep,⟨hs.defers.1,⟨hd.nodup,fun d hdd => ?_⟩⟩,hs.forms,RdB.later (b0d live) hs.rd ht.later hO,hs.nodup,fun b hb hf => ?_⟩,hd⟩
 ·rcases ht.fz b hb with h | h
  ·exact Nat.lt_of_lt_of_le (hs.hF b h) ht.later.size
  ·exact h.2
 ·refine (ht.same b (by omega) (fun h => ?_)).trans (hs.frame b hb hbO);rcases hb0 b h with h | h
  ·exact hbO h
  ·omega
 ·rcases ht.fz b hb with h | h
  ·exact hs.fz b h
  ·exact .inr (.inr (by omega))
 ·obtain ⟨D,k1,k2,k3,k4,k5⟩:=hd.at_ d hdd;exact ⟨D,k1,k2,k3,k4,fun h=>k5 (.inl h)⟩
 ·rcases ht.fz b hf with h | h
  ·exact hs.free b hb h
  ·have:=RdB.lt (b0d live) hs.rd b hb;omega
theorem a1z {D:Nat→Nat} {Rf:Type} {ret:St→Option Rf} {asg body:Code} {live:List (Nat×Ty)} {e:Ty} {ps:Array Nat} {g:Operand} {xs:List (El e)} {x z:El (b0d live)} {v:Value} {bs O:List Nat} {Q:Exit→Act→World→Prop}
  (hasg:∀(l:Nat) (W0:World) (F0:Fz) (O0:List Nat) (nt:Slots),CallSound cx call W0 F0→l0k fx.top nt→r0e cx call fx W0 F0 O0 nt (some l) Rf ret asg)
  (hbody:∀(l:Nat) (W0:World) (F0:Fz) (O0:List Nat) (nt:Slots),CallSound cx call W0 F0→l0k fx.top nt→r0e cx call fx W0 F0 O0 nt (some l) Rf ret body)
  (hc:CallSound cx call W0 F0) (hI:Pins fx.top nt D) (hmd:nt.md=true) (hps:∀p∈ps.toList,p<nt.nt∧p ∉ nt.K∧p ∉ live.map (·.1))
  (hba:b0y nt.nt (nt.K++live.map (·.1)) asg=true) (hbb:b0y nt.nt (nt.K++live.map (·.1)) body=true)
  (hs:KeepRel cx W0 F0 O0 nt D live x a W F O) (hseq:u0b cx.P e xs W F bs v) (hg:a.eval g=v) (hbO:∀b∈bs,b ∉ O) (hbF:∀b∈bs,¬F b) (hb0:∀b∈bs,b∈O0∨W0.heap.size≤b)
  (hds:DefOk W0.heap.size W F (fun b=>b∈O∨b∈bs) a.defers)
  (hk:seqF cx call fx live e ps.toList (fun st k=>evC cx call fx Rf ret asg _ (fun _=>none) st (onN fun st=>evC cx call fx Rf ret body _ (fun _=>none) st (onN k))) xs x=some z)
  (hQ:∀a' W' F' O',KeepRel cx W0 F0 O0 nt D live z a' W' F' O'→Q .normal a' W'):(Code.rangeFunc g ps asg body).wpIn (Rnd none) 0 cx.P Q a W:=by
 refine wpIn_rangeFunc ?_;intro fn hfn;obtain ⟨gf,lb,rfl,⟨gfn,hgf,hname,hgb⟩,hblt,hcon⟩:=hseq;have hgb':gfn.body≠none:=fun e=>by rw[e] at hgb;cases hgb
 have hname' : ¬ gfn.name = "runtime.NumGoroutine" := by simpa using hname
 have hW0:=hs.later.size;obtain ⟨rec0,hrec⟩:∃rec0:Loop,rec0 = { state := .ready,pending:=none,fn:=fn,tmps:=a.tmps,params:=ps,assign:=asg,body:=body,defers:=W.heap.size }:=⟨_,rfl⟩;obtain ⟨W1,hW1⟩:∃W1,(W.alloc (.deferred (some []))).alloc (.loop rec0)=W1:=⟨_,rfl⟩;have hL1:W1.heap[W.heap.size+1]? = some (.loop rec0):=by
  rw[←hW1];have:=World.alloc_heap_new (W.alloc (.deferred (some []))) (.loop rec0);rwa [World.size_alloc] at this
 have hK1:W1.heap[W.heap.size]? = some (.deferred (some [])):=by
  rw[←hW1];exact (RowKit.Below.heap_alloc _ _ _ (by simp)).trans (World.alloc_heap_new W _)
 have hsz1:W1.heap.size=W.heap.size+2:=by rw[←hW1];simp
 have hsame1:∀b,b<W.heap.size→W1.heap[b]? = W.heap[b]? := fun b hb=>by
  rw[←hW1];exact (RowKit.Below.heap_alloc _ _ _ (by simp;omega)).trans (RowKit.Below.heap_alloc _ _ _ hb)
 have hlat1:Later W F W1 F:=⟨by rw[←hW1];rfl,by rw[←hW1];rfl,by rw[←hW1];rfl,by omega,fun b hb=>hsame1 b (hs.hF b hb),fun _ h=>h⟩;refine ⟨W.heap.size+1,[{ target := .collected W.heap.size,args := #[] }],W1,{ target := .fn (.func gf) lb,args := #[.func (.yield (W.heap.size+1)) #[] #[]] },W1,gf,
  #[.func (.yield (W.heap.size+1)) #[] #[]]++lb,W1,?_,?_,?_,?_,(fun h=>by cases h),?_⟩
 ·rw[←hW1,hrec];exact run_enterLoop_outer _ _ _ _ _
 ·simp only[resolve,hg];simp[go_sem]
 ·intro f' _;trivial
 ·simp[invoke,go_sem,callFunc,hgf,hname',hgb']
 ·refine p0l (Calls.mono (hcon (W.heap.size+1)
   (fun k A FA=>∃y O',seqF cx call fx live e ps.toList (fun st k=>evC cx call fx Rf ret asg _ (fun _=>none) st (onN fun st=>evC cx call fx Rf ret body _ (fun _=>none) st (onN k))) (xs.drop k) y=some z ∧
    KeepRel cx W0 F0 O0 nt D live y a A FA O'∧A.heap[W.heap.size+1]? = some (.loop rec0)∧A.heap[W.heap.size]? = some (.deferred (some []))∧(¬FA (W.heap.size+1)∧W.heap.size+1 ∉ O')∧(¬FA W.heap.size∧W.heap.size ∉ O') ∧
    (∀b∈bs,b ∉ O')∧(∀b∈bs,¬FA b)∧DefOk W0.heap.size A FA (fun b=>b∈O'∨b∈bs) a.defers)
   W1 F hlat1 (fun b hb=>hsame1 b (hblt b hb)) (fun b hb=>by have:=hs.hF b hb;omega) hbF ?turn ?round ?start) ?fin)
  case turn =>
   rintro k A FA B FB ⟨y,O',j1,j2,j3,j4,j5,j6,j7,j8,j9⟩ ht;have hl:W.heap.size+1<A.heap.size:=(Array.getElem?_eq_some_iff.1 j3).1;obtain ⟨q1,q2⟩:=j2.turn ht j7 hb0 j9;have nb:∀b,W.heap.size≤b→b ∉ bs:=fun b hb h=>by have:=hblt b h;omega
   have nf:∀b,b<A.heap.size→¬FA b→¬FB b:=fun b hb h1 h2=>by
    rcases ht.fz b h2 with h | h
    ·exact h1 h
    ·omega
   exact ⟨y,O',j1,q1,(ht.same _ hl (nb _ (by omega))).trans j3,(ht.same _ (by omega) (nb _ (by omega))).trans j4,⟨nf _ hl j5.1,j5.2⟩,⟨nf _ (by omega) j6.1,j6.2⟩,j7,fun b hb=>nf b (by have:=hblt b hb;omega) (j8 b hb),q2⟩
  case round =>
   rintro k y A FA vs hy ⟨u,O',j1,j2,j3,j4,j5,j6,j7,j8,j9⟩ hlA hFA hv;have hl:W.heap.size+1<A.heap.size:=(Array.getElem?_eq_some_iff.1 j3).1;have hdrop:xs.drop k=y::xs.drop (k+1):=by
    obtain ⟨hlt,rfl⟩:=List.getElem?_eq_some_iff.1 hy;exact List.drop_eq_getElem_cons hlt
   rw[hdrop] at j1;simp only[seqF] at j1;cases hone:h0s fx live u (fun st=>(parK ps.toList e y st.t).bind fun t=>evC cx call fx Rf ret asg _ (fun _=>none) { st with t:=t } (onN fun st=>evC cx call fx Rf ret body _ (fun _=>none) st (onN fun st=>j0v cx call fx st live))) with
   | none=>rw[hone] at j1;cases j1
   | some w =>
    rw[hone] at j1;simp only[Option.bind_some] at j1;refine a1x (D0:=W.heap.size) (fn:=fn) (hasg (W.heap.size+1)) (hbody (W.heap.size+1)) hc hI hps hba hbb j2 (by rw[j3,hrec]) (by omega) j5.1 j5.2 hv hone fun A' FA' O2 r1 r2 r3 r4 r5 r6 => ?_
    have nf:∀b,b<A.heap.size→b ∉ O'→¬FA b→¬FA' b:=fun b hb h0 h1 h2=>by
     rcases r6 b h2 with h | h | h
     ·exact h1 h
     ·exact h0 h
     ·omega
    have no:∀b,b<A.heap.size→b ∉ O'→b ∉ O2:=fun b hb h0 h2=>by
     rcases r5 b h2 with h | h
     ·exact h0 h
     ·omega
    have hbA:∀b∈bs,b<A.heap.size:=fun b hb=>by have:=hblt b hb;omega
    exact ⟨rfl,FA',⟨w,O2,j1,r1,r2.trans j3,(r4 _ (by omega) j6.2).trans j4,⟨nf _ hl j5.2 j5.1,no _ hl j5.2⟩,⟨nf _ (by omega) j6.2 j6.1,no _ (by omega) j6.2⟩,fun b hb=>no b (hbA b hb) (j7 b hb),fun b hb=>nf b (hbA b hb) (j7 b hb) (j8 b hb),
     j9.turn fun D hD _ d1 d2 _=>⟨r4 D hD fun h=>d2 (.inl h),nf D hD (fun h=>d2 (.inl h)) d1,fun h=>h.elim (no D hD fun h=>d2 (.inl h)) fun h=>d2 (.inr h)⟩⟩,
     r3,r1.hF,fun b hb=>r4 b (hbA b hb) (j7 b hb),fun b hb=>nf b (hbA b hb) (j7 b hb) (j8 b hb)⟩
  case start =>
   have hlt:∀b∈O,b<W.heap.size:=RdB.lt (b0d live) hs.rd;have ht:Turn bs W F W1 F:=⟨hlat1,fun b hb _=>hsame1 b hb,fun b hb => .inl hb⟩;obtain ⟨q1,q2⟩:=hs.turn ht hbO hb0 hds;exact ⟨x,O,hk,q1,hL1,hK1,⟨fun h=>by have:=hs.hF _ h;omega,fun h=>by have:=hlt _ h;omega⟩,⟨fun h=>by have:=hs.hF _ h;omega,fun h=>by have:=hlt _ h;omega⟩,hbO,hbF,q2⟩
  case fin =>
   rintro en W' ⟨⟨u,rfl⟩,F',y,O',j1,j2,j3,j4,j5,j6,j7,j8,j9⟩;rw[List.drop_length] at j1;simp only[seqF,Option.some.injEq] at j1;subst j1;refine ⟨none,_,by have:=run_endLoop (P:=cx.P) j3 (by rw[hrec];simp);rw[hrec] at this;exact this,?_⟩;have hq:=j2.dead (o := .loop { rec0 with state := .exhausted }) (l:=W.heap.size+1) (by omega) j5.1 j5.2 (by rw[j3];simp);refine hQ _ _ F' O' ?_;subst hrec;refine ⟨hq.hF,hq.later,hq.frame,hq.own,hq.fz,hq.size,hq.keep,⟨(fun h=>by rw[hmd] at h;cases h),?_,fun d hd => ?_⟩,hq.forms,hq.rd,hq.nodup,hq.free⟩
   ·show ({ target := .collected W.heap.size,args := #[] }::a.defers:List Deferred).Nodup;refine List.nodup_cons.2 ⟨fun h => ?_,hs.defers.2.nodup⟩;obtain ⟨D,k1,k2,_⟩:=hs.defers.2.at_ _ h;have hlt:=(Array.getElem?_eq_some_iff.1 k2).1;injection k1 with k1;injection k1 with k1;omega
   ·rcases List.mem_cons.1 hd with rfl | hd
    ·exact ⟨_,rfl,(World.putObj_heap_other (by omega)).trans j4,by omega,j6.1,j6.2⟩
    ·exact hq.defers.2.at_ d hd
end
end Go.Flat
end
section
namespace Go.Flat
open Go.RowKit (Below)
theorem b1y {P:Program}:∀(t:Ty),n0r t=true→∀ {x:El t} {W W2:World} {F F2:Fz} {g:Get},(RdP P t).1 x W F g→(RdP P t).1 x W2 F2 g:=by
 intro t;induction t with
 | unit=>intro _ x W W2 F F2 g h;exact h
 | bool=>intro _ x W W2 F F2 g h;exact h
 | int k=>intro _ x W W2 F F2 g h;exact h
 | str=>intro _ x W W2 F F2 g h;exact h
 | err=>intro _ x W W2 F F2 g h;exact h
 | wrap e ih=>intro hf x W W2 F F2 g h;exact ih hf h
 | pair a b iha ihb =>
  intro hf x W W2 F F2 g h;simp only[n0r,Bool.and_eq_true] at hf;exact ⟨iha hf.1 h.1,ihb hf.2 h.2⟩
 | _=>intro hf;cases hf
theorem b1z {P:Program} {W W2:World} {F F2:Fz} {E:EnvM} {c:Cell} {v:Value} (h:b0q P W F E c v) (hf:x0q c=true):b0q P W2 F2 E c v:=by
 cases c with
 | val t x=>exact ⟨h.1,h.2.1,b1y t hf h.2.2⟩
 | pin t x off=>cases hf
 | clo f t x=>cases hf
 | clob f l=>exact h
 | sel n ver i=>cases hf
 | loc n ver off=>exact h
 | lel n ver i off=>exact h
 | lrow n ver=>exact h
 | lall n ver=>exact h
 | lsl n ver off l=>exact h
 | sl n ver=>exact h
 | np=>exact h
 | ns=>exact h
 | nf=>exact h
 | anyB=>exact h
 | dead=>trivial
 | nm=>exact h
theorem a1p {P:Program} {W W2:World} {F F2:Fz} {E:EnvM} {c:Cell} {v:Value} (h:b0q P W F E c v):b0q P W2 F2 E (i0x c) v:=by
 unfold i0x;cases hf:x0q c with
 | true=>exact b1z h hf
 | false=>trivial
theorem l0r {P:Program} {W W2:World} {F F2:Fz} {E:EnvM} {cs:List Cell} {vs:List Value} (h:a0d P W F E cs vs):a0d P W2 F2 E (cs.map i0x) vs:=by
 refine ⟨by simpa using h.1,fun j c v hc hv => ?_⟩;rw[List.getElem?_map] at hc;cases hj:cs[j]? with
 | none=>rw[hj] at hc;cases hc
 | some d =>
  rw[hj] at hc;injection hc with hc;subst hc;obtain ⟨k1,k2⟩:=h.2 j d v hj hv;exact ⟨a1p k1,k2⟩
theorem y0j {P:Program} {W W2:World} {F F2:Fz} {E:EnvM} {ag:Bool} {cs:List Cell} {v:Value} (h:RdV1 P W F E ag cs v):RdV1 P W2 F2 E ag (cs.map i0x) v:=⟨l0r h.1,h.2⟩
theorem thawV_rd {P:Program} {W W2:World} {F F2:Fz} {E:EnvM} {x:V} {v:Value} (h:RdV P W F E x v):RdV P W2 F2 E (h1h x) v:=by
 cases x with
 | v ag cs=>exact y0j h
 | tup l =>
  obtain ⟨vs,h1,h2,h3⟩:=h;refine ⟨vs,h1,by simpa using h2,fun j p u hp hu => ?_⟩;rw[List.getElem?_map] at hp;cases hj:l[j]? with
  | none=>rw[hj] at hp;cases hp
  | some q =>
   rw[hj] at hp;injection hp with hp;subst hp;exact y0j (h3 j q u hj hu)
 | undef=>exact h
 | lost=>trivial
theorem h1j (ds:List Nat) (old new:List (Nat×V)) (s:Nat):getT (thawT ds old new) s=bif hasN ds s then h1h (getT new s) else getT old s:=by
 unfold thawT;induction ds with
 | nil=>rfl
 | cons d ds ih =>
  show getT ((d,h1h (getT new d))::(ds.map (fun s=>(s,h1h (getT new s)))++old)) s=_;simp only[getT,hasN];cases hb:Nat.beq d s with
  | true =>
   have:=Nat.eq_of_beq_eq_true hb;subst this;simp
  | false =>
   simp only[cond_false,ih];cases hasN ds s<;>simp
theorem s0e (h0:Heap):∀(h:Heap) (n i:Nat),(w0t h0 n h)[i]? = (h[i]?).map fun p=>(p.1,match p.2 with | some B=>h1l (frAt h0 (n+i) p.1) B | none=>none)
 | [],n,i=>by simp[w0t]
 | (ver,ob)::r,n,0=>by cases ob<;>simp[w0t]
 | (ver,ob)::r,n,i+1=>by
  show (w0t h0 (n+1) r)[i]? = _;rw[s0e h0 r (n+1) i,show n+1+i=n+(i+1) by omega];rfl
theorem t0j {h:Heap} {n ver:Nat} {fr:Bool} (e:frAt h n ver=some fr):(∃t cs,h[n]? = some (ver,some (.box t cs fr)))∨∃e xs,h[n]? = some (ver,some (.arr e xs fr)):=by
 unfold frAt at e;split at e
 ·rename_i v t cs fr' hn;cases hb:Nat.beq v ver with
  | false=>rw[hb] at e;cases e
  | true =>
   rw[hb] at e;injection e with e;subst e;rw[Nat.eq_of_beq_eq_true hb] at hn;exact .inl ⟨t,cs,hn⟩
 ·rename_i v e' xs fr' hn;cases hb:Nat.beq v ver with
  | false=>rw[hb] at e;cases e
  | true =>
   rw[hb] at e;injection e with e;subst e;rw[Nat.eq_of_beq_eq_true hb] at hn;exact .inr ⟨e',xs,hn⟩
 ·cases e
theorem frAt_fz {P:Program} {W:World} {F:Fz} {E:EnvM} {h:Heap} (hr:HR P W F E (fun _=>True) h) {n ver:Nat} {fr:Bool} (e:frAt h n ver=some fr) {L:Loc} (hL:E.m n ver=some L) :
  (∀b,L = .box b→(fr=false→¬F b)∧(fr=true→F b))∧∀b w l c,L = .arr b w l c→(fr=false→¬F b)∧(fr=true→F b):=by
 rcases t0j e with ⟨t,cs,hn⟩ | ⟨e',xs,hn⟩
 ·obtain ⟨_,L',hL',b,arr,T,rfl,_,_,_,k1,k2⟩:=hr.blk n ver _ hn;rw[hL] at hL';injection hL' with hL';subst hL';refine ⟨fun b' hb => ?_,fun b' w l c hb=>(by cases hb)⟩;injection hb with hb;subst hb;exact ⟨k1,k2⟩
 ·obtain ⟨_,L',hL',hB⟩:=hr.blk n ver _ hn;rw[hL] at hL';injection hL' with hL';subst hL';rcases hB with ⟨rfl,_⟩ | ⟨b,cap,rfl,_,k1,k2⟩
  ·exact ⟨fun b' hb=>(by cases hb),fun b' w l c hb=>(by cases hb)⟩
  ·refine ⟨fun b' hb=>(by cases hb),fun b' w l c hb => ?_⟩;injection hb with hb;subst hb;exact ⟨k1,k2⟩
theorem thawB_rd {P:Program} {W:World} {F F2:Fz} {E:EnvM} {L:Loc} {B B2:Blk} {o:Option Bool} (h:f0e P W F2 E L B) (hF:∀b,F b→F2 b)
  (ho:∀fr,o=some fr→(∀b,L = .box b→(fr=false→¬F b)∧(fr=true→F b))∧∀b w l c,L = .arr b w l c→(fr=false→¬F b)∧(fr=true→F b)) (e:h1l o B=some B2):f0e P W F E L B2:=by
 unfold h1l at e;split at e
 ·rename_i t cs;injection e with e;subst e;obtain ⟨b,arr,T,rfl,h1,h2,h3,h4,_⟩:=h;exact ⟨b,arr,T,rfl,h1,l0r h2,by simpa using h3,fun _ hb=>h4 rfl (hF b hb),fun e=>(by cases e)⟩
 ·rename_i t cs;cases o with
  | none=>cases e
  | some fr =>
   injection e with e;subst e;obtain ⟨b,arr,T,rfl,h1,h2,h3,_,_⟩:=h;obtain ⟨k1,k2⟩:=(ho fr rfl).1 b rfl;exact ⟨b,arr,T,rfl,h1,l0r h2,by simpa using h3,k1,k2⟩
 ·rename_i t xs;cases hf:n0r t with
  | false=>rw[hf] at e;cases e
  | true =>
   rw[hf] at e;injection e with e;subst e;rcases h with ⟨h1,h2⟩ | ⟨b,cap,rfl,⟨cs,T,q1,q2,q3,q4,q5,q6⟩,h3,_⟩
   ·exact .inl ⟨h1,h2⟩
   ·exact .inr ⟨b,cap,rfl,⟨cs,T,q1,q2,q3,q4,q5,fun i hi=>b1y t hf (q6 i hi)⟩,fun _ hb=>h3 rfl (hF b hb),fun e=>(by cases e)⟩
 ·rename_i t xs;cases hf:n0r t with
  | false=>rw[hf] at e;cases e
  | true =>
   rw[hf] at e;cases o with
   | none=>cases e
   | some fr =>
    injection e with e;subst e;rcases h with ⟨h1,h2⟩ | ⟨b,cap,rfl,⟨cs,T,q1,q2,q3,q4,q5,q6⟩,_,_⟩
    ·exact .inl ⟨h1,h2⟩
    ·obtain ⟨k1,k2⟩:=(ho fr rfl).2 b _ _ _ rfl;exact .inr ⟨b,cap,rfl,⟨cs,T,q1,q2,q3,q4,q5,fun i hi=>b1y t hf (q6 i hi)⟩,k1,k2⟩
 ·rename_i n base top T e' x hole fr;injection e with e;subst e;obtain ⟨v,bs,rfl,h1,h2,h3,h4,h5⟩:=h;refine ⟨v,bs,rfl,h1,h2,h3,h4,fun hfr => ?_⟩;obtain ⟨k1,k2,k3⟩:=h5 hfr;exact ⟨k1,k2,fun b hb hFb=>k3 b hb (hF b hFb)⟩
 ·cases e
theorem g1l {n:Nat} {K K2:List Nat}:∀c:Code,k0v c=true→b0y n K c=true→(∀d∈q0d c,d ∉ K2)→b0y n K2 c=true:=by
 intro c;induction c with
 | skip=>intro _ _ _;rfl
 | ret=>intro _ _ _;rfl
 | exit id=>intro _ _ _;rfl
 | region id ops draw =>
  intro _ h hd;simp only[b0y,z0y,List.all_eq_true] at h ⊢;intro o ho;have h1:=h o ho;cases hdst:o.dst with
  | none=>rfl
  | some d =>
   rw[hdst] at h1;simp only[Bool.and_eq_true] at h1 ⊢;refine ⟨h1.1,?_⟩;have:d∈q0d (.region id ops draw):=List.mem_filterMap.2 ⟨o,ho,hdst⟩;have hk:=hd d this;cases hh:hasN K2 d with
   | false=>rfl
   | true=>exact absurd (b0r.1 hh) hk
 | seq a b iha ihb =>
  intro hf h hd;simp only[k0v,b0y,Bool.and_eq_true] at hf h ⊢;exact ⟨iha hf.1 h.1 fun d hm=>hd d (List.mem_append_left _ hm),ihb hf.2 h.2 fun d hm=>hd d (List.mem_append_right _ hm)⟩
 | cond z a b iha ihb =>
  intro hf h hd;simp only[k0v,b0y,Bool.and_eq_true] at hf h ⊢;exact ⟨iha hf.1 h.1 fun d hm=>hd d (List.mem_append_left _ hm),ihb hf.2 h.2 fun d hm=>hd d (List.mem_append_right _ hm)⟩
 | block id a ih =>
  intro hf h hd;exact ih hf h hd
 | _=>intro hf;cases hf
theorem below_no {n:Nat} {K:List Nat}:∀c:Code,k0v c=true→b0y n K c=true→∀i∈K,i ∉ q0d c:=by
 intro c;induction c with
 | region id ops draw =>
  intro _ h i hi hd;simp only[b0y,z0y,List.all_eq_true] at h;obtain ⟨o,ho,hdst⟩:=List.mem_filterMap.1 hd;have h1:=h o ho;rw[hdst] at h1;simp only[Bool.and_eq_true] at h1;rw[b0r.2 hi] at h1;exact absurd h1.2 (by simp)
 | seq a b iha ihb =>
  intro hf h i hi hd;simp only[k0v,b0y,Bool.and_eq_true] at hf h;rcases List.mem_append.1 hd with hd | hd
  ·exact iha hf.1 h.1 i hi hd
  ·exact ihb hf.2 h.2 i hi hd
 | cond z a b iha ihb =>
  intro hf h i hi hd;simp only[k0v,b0y,Bool.and_eq_true] at hf h;rcases List.mem_append.1 hd with hd | hd
  ·exact iha hf.1 h.1 i hi hd
  ·exact ihb hf.2 h.2 i hi hd
 | block id a ih=>intro hf h i hi hd;exact ih hf h i hi hd
 | skip=>intro _ _ i _ hd;cases hd
 | ret=>intro _ _ i _ hd;cases hd
 | exit id=>intro _ _ i _ hd;cases hd
 | _=>intro hf;cases hf
theorem f1y:∀c:Code,k0v c=true→noRF c=true:=by
 intro c;induction c with
 | seq a b iha ihb =>
  intro h;simp only[k0v,noRF,Bool.and_eq_true] at h ⊢;exact ⟨iha h.1,ihb h.2⟩
 | cond z a b iha ihb =>
  intro h;simp only[k0v,noRF,Bool.and_eq_true] at h ⊢;exact ⟨iha h.1,ihb h.2⟩
 | block id a ih=>intro h;exact ih h
 | skip=>intro _;rfl
 | ret=>intro _;rfl
 | exit id=>intro _;rfl
 | region id ops draw=>intro _;rfl
 | _=>intro h;cases h
theorem a1q {fx:Hints} {a b:Code} (h:c1q fx a b=true):fx.thaw≠[]∧k0v a=true:=by
 unfold c1q at h;split at h
 ·cases h
 ·rename_i hne;refine ⟨fun e=>hne e,?_⟩;split at h
  ·rw[Bool.and_eq_true] at h;exact h.2
  ·cases h
theorem k1p (fx:Hints) (c:Code):(fx.calm c).thaw=[]∨noRF c=true:=by
 unfold Hints.calm;split
 ·rename_i h;exact .inl h
 ·cases hn:noRF c with
  | true=>exact .inr rfl
  | false=>exact .inl rfl
section
variable {cx:Cx} {call:Oracle cx} {fx:Hints} {W0:World} {F0:Fz} {O0:List Nat} {nt:Slots}
def e1k (nt:Slots) (a:Act) (E:EnvM) (ds:List Nat):Slots where
 nt:=nt.nt
 K:=(List.range nt.nt).filter fun i => !hasN ds i
 kv:=fun i=>a.tmps.getD i undef
 I:=fun E'=>EnvLe E E'
 up:=fun _ _ h k=>h.trans k
 md:=false
open Classical in
noncomputable def f1l (h:Heap) (E:EnvM) (n:Nat):List Nat:=(List.range n).filter fun b=>decide (a0p h E b)
theorem StRel.into {st:St} {a:Act} {W:World} {F:Fz} {E:EnvM} (hs:StRel cx W0 F0 O0 nt st a W F E) (hmd:nt.md=false) (ds:List Nat) :
  StRel cx W F (f1l st.h E W.heap.size) (e1k nt a E ds) st a W F E:=by
 refine ⟨hs.hr,hs.hF,hs.t,Later.refl W F,fun _ _ _=>rfl,fun b hb => ?_,fun b hb => .inl hb,hs.size,fun i _=>rfl,⟨fun _=>hs.defers.1 hmd,by rw[hs.defers.1 hmd];exact .nil⟩,EnvLe.refl E⟩;by_cases h:b<W.heap.size
 ·exact .inl (List.mem_filter.2 ⟨List.mem_range.2 h,by simpa using hb⟩)
 ·exact .inr (by omega)
theorem j1e {h:Heap} {E:EnvM} {n b:Nat} (hb:b∈f1l h E n):a0p h E b:=by
 have:=(List.mem_filter.1 hb).2
 simpa using this
theorem StRel.outOf {st st':St} {a a':Act} {W W':World} {F F':Fz} {E E':EnvM} {ds:List Nat} (hs:StRel cx W0 F0 O0 nt st a W F E) (h2:StRel cx W F (f1l st.h E W.heap.size) (e1k nt a E ds) st' a' W' F' E')
  (hK:∀i∈nt.K,i<nt.nt→i ∉ ds):StRel cx W0 F0 O0 nt st' a' W' F' E':=by
 have hO:∀b∈f1l st.h E W.heap.size,b∈O0∨W0.heap.size≤b:=fun b hb=>hs.own b (j1e hb)
 have hd:=h2.defers.1 rfl;have hsz:W0.heap.size≤W.heap.size:=hs.later.size;refine ⟨h2.hr,h2.hF,h2.t,hs.later.trans h2.later,fun b hb hn => ?_,fun b hb => ?_,fun b hb => ?_,h2.size,fun i hi => ?_,⟨fun _=>hd,by rw[hd];exact .nil⟩,nt.up E E' hs.env h2.env⟩
 ·refine (h2.frame b (by omega) fun hm => ?_).trans (hs.frame b hb hn);rcases hO b hm with k | k
  ·exact hn k
  ·omega
 ·rcases h2.own b hb with k | k
  ·exact hO b k
  ·exact .inr (by omega)
 ·rcases h2.fz b hb with k | k | k
  ·exact hs.fz b k
  ·exact .inr (hO b k)
  ·exact .inr (.inr (by omega))
 ·by_cases hi2:i<nt.nt
  ·refine (h2.keep i ?_).trans (hs.keep i hi);refine List.mem_filter.2 ⟨List.mem_range.2 hi2,?_⟩;cases hh:hasN ds i with
   | false=>rfl
   | true=>exact absurd (b0r.1 hh) (hK i hi hi2)
  ·have e1:a'.tmps.getD i undef=undef:=by
    rw[Array.getD_eq_getD_getElem?,Array.getElem?_eq_none (by rw[h2.size];exact Nat.le_of_not_lt hi2)];rfl
   have e2:a.tmps.getD i undef=undef:=by
    rw[Array.getD_eq_getD_getElem?,Array.getElem?_eq_none (by rw[hs.size];omega)];rfl
   rw[e1,←hs.keep i hi,e2]
theorem StRel.thaw {st st':St} {a a':Act} {W W':World} {F F':Fz} {E E':EnvM} {ds:List Nat} (hs:StRel cx W0 F0 O0 nt st a W F E) (h2:StRel cx W F (f1l st.h E W.heap.size) (e1k nt a E ds) st' a' W' F' E')
  (hK:∀i∈nt.K,i<nt.nt→i ∉ ds):StRel cx W0 F0 O0 nt (thawSt ds st st') a' W' F E':=by
 have h3:=hs.outOf h2 hK;have hE:EnvLe E E':=h2.env;have hl:Later W F W' F:=⟨h2.later.os,h2.later.tape,h2.later.output,h2.later.size,h2.later.keep,fun _ h=>h⟩;have entry:∀n ver B,(w0t st.h 0 st'.h)[n]? = some (ver,some B)→∃B',st'.h[n]? = some (ver,some B')∧h1l (frAt st.h n ver) B'=some B:=by
  intro n ver B hn;rw[s0e,Nat.zero_add] at hn;cases hp:st'.h[n]? with
  | none=>rw[hp] at hn;cases hn
  | some p =>
   rw[hp] at hn;obtain ⟨v',ob⟩:=p;simp only[Option.map_some,Option.some.injEq,Prod.mk.injEq] at hn;obtain ⟨rfl,hn⟩:=hn;cases ob with
   | none=>cases hn
   | some B'=>exact ⟨B',rfl,hn⟩
 have live:∀b,a0p (w0t st.h 0 st'.h) E' b→a0p st'.h E' b:=by
  rintro b ⟨n,ver,B,L,q1,q2,q3⟩;obtain ⟨B',q4,_⟩:=entry n ver B q1;exact ⟨n,ver,B',L,q4,q2,q3⟩
 refine ⟨⟨fun n ver b hN hn => ?_,fun n ver B hn => ?_,fun n m vn vm bn bm L M x q1 q2 q3 q4 q5 q6 => ?_⟩,fun b hb=>Nat.lt_of_lt_of_le (hs.hF b hb) h2.later.size,fun s => ?_,hs.later.trans hl,h3.frame,fun b hb=>h3.own b (live b hb),hs.fz,h3.size,h3.keep,
  ⟨h3.defers.1,by rw[h2.defers.1 rfl];exact .nil⟩,h3.env⟩
 ·change (w0t st.h 0 st'.h)[n]? = some (ver,b) at hn
  rw[s0e] at hn;cases hp:st'.h[n]? with
  | none=>rw[hp] at hn;cases hn
  | some p =>
   rw[hp] at hn;simp only[Option.map_some,Option.some.injEq,Prod.mk.injEq] at hn;have:=h2.hr.top n p.1 p.2 hN (by rw[hp]);rw[←hn.1];exact this
 ·obtain ⟨B',q1,q2⟩:=entry n ver B hn;obtain ⟨k0,L,k1,k2⟩:=h2.hr.blk n ver B' q1;refine ⟨k0,L,k1,thawB_rd k2 h2.later.more (fun fr hfr => ?_) q2⟩;obtain ⟨L',hL'⟩:∃L',E.m n ver=some L':=by
   rcases t0j hfr with ⟨t,cs,hn⟩ | ⟨e',xs,hn⟩
   ·obtain ⟨_,L',hL',_⟩:=hs.hr.blk n ver _ hn;exact ⟨L',hL'⟩
   ·obtain ⟨_,L',hL',_⟩:=hs.hr.blk n ver _ hn;exact ⟨L',hL'⟩
  have hver:ver≤E.top n:=by
   rcases t0j hfr with ⟨t,cs,hn⟩ | ⟨e',xs,hn⟩
   ·exact Nat.le_of_eq (hs.hr.top n ver _ trivial hn)
   ·exact Nat.le_of_eq (hs.hr.top n ver _ trivial hn)
  rw[hE.m n ver hver,hL'] at k1;injection k1 with k1;subst k1;exact frAt_fz hs.hr hfr hL'
 ·obtain ⟨Bn,r1,_⟩:=entry n vn bn q1;obtain ⟨Bm,r2,_⟩:=entry m vm bm q2;exact h2.hr.inj n m vn vm Bn Bm L M x r1 r2 q3 q4 q5 q6
 ·show RdV cx.P W' F E' (getT (thawT ds st.t st'.t) s) (a'.tmps.getD s undef);rw[h1j];cases hd:hasN ds s with
  | true=>exact thawV_rd (h2.t s)
  | false =>
   have e:a'.tmps.getD s undef=a.tmps.getD s undef:=by
    by_cases hi2:s<nt.nt
    ·exact h2.keep s (List.mem_filter.2 ⟨List.mem_range.2 hi2,by rw[hd];rfl⟩)
    ·rw[Array.getD_eq_getD_getElem?,Array.getD_eq_getD_getElem?,Array.getElem?_eq_none (by rw[h2.size];exact Nat.le_of_not_lt hi2),Array.getElem?_eq_none (by rw[hs.size];omega)]
   rw[e];exact (hs.t s).later hl hE
end
end Go.Flat
end
section
namespace Go.Flat
open Go.RowKit (Below)
section
variable {cx:Cx} {call:Oracle cx} {fx:Hints} {W0:World} {F0:Fz} {O0:List Nat} {nt:Slots}
theorem u0x {rd:Option Nat} {Rf:Type} {ret:St→Option Rf} {c:Code} (hcode:r0e cx call fx W0 F0 O0 nt rd Rf ret c) (hb:b0y nt.nt nt.K c=true) {R:Type} {kr:Rf→Option R} {k:Exit→St→Option R} {r:R} {Q:Exit→Act→World→Prop}
  (hk:∀e st' a' W' F' E',k e st'=some r→StRel cx W0 F0 O0 nt st' a' W' F' E'→Q e a' W')
  (hkr:∀y st' a' W' F' E',kr y=some r→ret st'=some y→StRel cx W0 F0 O0 nt st' a' W' F' E'→Q .ret a' W') :
  ∀(n:Nat) (st:St) (a:Act) (W:World) (F:Fz) (E:EnvM),StRel cx W0 F0 O0 nt st a W F E→spin (fun st k=>evC cx call fx Rf ret c R kr st k) n st k=some r→Code.roundsIn (Rnd rd) 0 cx.P c Q n a W:=by
 intro n;induction n with
 | zero=>intro st a W F E _ h;cases h
 | succ n ih =>
  intro st a W F E hs h;simp only[spin] at h;refine hcode R kr st _ r a W F E _ hb hs h (fun e st' a' W' F' E' h1 h2 => ?_) (fun y st' a' W' F' E' h1 h2 h3=>hkr y st' a' W' F' E' h1 h2 h3);cases e with
  | normal=>exact ih st' a' W' F' E' h2 h1
  | _=>exact hk _ st' a' W' F' E' h1 h2
def w0n (v w:Value):Prop:=v=w∨((∃a,v = .slice a 0 0)∧∃b,w = .slice b 0 0)
theorem v0h {P:Program} {x y:V} (h:sameRow x y=true) {v w:Value} {W:World} {F:Fz} {E:EnvM} (hx:RdV P W F E x v) (hy:RdV P W F E y w):w0n v w:=by
 unfold sameRow at h;split at h
 case h_2=>cases h
 rename_i n k m j;simp only[Bool.and_eq_true] at h;obtain rfl:=Nat.eq_of_beq_eq_true h.1;obtain rfl:=Nat.eq_of_beq_eq_true h.2;obtain ⟨g1,⟨L,g2⟩,g3⟩:=hx.single.1;obtain ⟨_,_,f3⟩:=hy.single.1;have a1:=g3 L g2;have a2:=f3 L g2;cases L with
 | box b=>exact a1.elim
 | tree w bs=>exact a1.elim
 | nil=>exact .inr ⟨a1,a2⟩
 | arr b w' len cap=>exact .inl (a1.trans a2.symm)
theorem l1j {al:List (Nat×Nat)} {st:St} (h:e1b al st=true) {a:Act} {W:World} {F:Fz} {E:EnvM} (hs:StRel cx W0 F0 O0 nt st a W F E):∀p∈al,w0n (a.tmps.getD p.1 undef) (a.tmps.getD p.2 undef):=by
 intro p hp;exact v0h (List.all_eq_true.1 h p hp) (hs.t p.1) (hs.t p.2)
theorem w0k {v w:Value} (hal:w0n v w) {n ver:Nat} {st:St} {W:World} {F:Fz} {E:EnvM} {N:Nat→Prop} (hr:HR cx.P W F E N st.h) {e:Ty} {xs:List (El e)} {fr:Bool} (hn:st.h[n]? = some (ver,some (.arr e xs fr)))
  (hmv:RdV cx.P W F E (.v false [.lall n ver]) w):RdV cx.P W F E (.v false [.lall n ver]) v:=by
 rcases hal with q | ⟨⟨x,q1⟩,⟨y,q2⟩⟩
 ·rw[q];exact hmv
 ·rw[q2] at hmv;rw[q1];obtain ⟨g1,g2,g3⟩:=hmv.single.1;refine RdV.mk1 ⟨g1,g2,fun L hL => ?_⟩ rfl;have:=g3 L hL;cases L with
  | box b=>exact this.elim
  | tree w bs=>exact this.elim
  | nil=>exact ⟨x,rfl⟩
  | arr b w' len cap =>
   exfalso;rcases c0p hr hn with ⟨z1,_⟩ | ⟨b',cap',z1,⟨cs,T,_,_,_,hcap,_⟩,_⟩
   ·rw[hL] at z1;injection z1 with z1;cases z1
   ·rw[hL] at z1;injection z1 with z1;injection z1 with _ _ _ z1;have h0:Value.slice y 0 0 = .slice (some ⟨b,0,none⟩) len cap:=this;injection h0 with _ _ h0;omega
theorem l1i {R:Type} {r:R} {k:St→Option R} {a:Act} {W:World} {F:Fz} {E:EnvM}:∀(al:List (Nat×Nat)) (st:St),e1a al st k=some r→(∀p∈al,w0n (a.tmps.getD p.1 undef) (a.tmps.getD p.2 undef))→StRel cx W0 F0 O0 nt st a W F E →
  ∃st',k st'=some r∧StRel cx W0 F0 O0 nt st' a W F E:=by
 intro al;induction al with
 | nil=>intro st h _ hs;exact ⟨st,h,hs⟩
 | cons p al ih =>
  obtain ⟨s,m⟩:=p;intro st h hal hs;unfold e1a at h;split at h
  case h_2=>cases h
  rename_i n ver hm;split at h
  case h_2=>cases h
  rename_i ver' e xs fr hn;split at h
  case isFalse=>cases h
  rename_i hver;subst hver;refine ih _ h (fun p hp=>hal p (by simp[hp])) ⟨hs.hr,hs.hF,fun s' => ?_,hs.later,hs.frame,hs.own,hs.fz,hs.size,hs.keep,hs.defers,hs.env⟩;simp only[getT];cases hbe:Nat.beq s s' with
  | false=>exact hs.t s'
  | true =>
   have:=Nat.eq_of_beq_eq_true hbe;subst this;have hmv:=hs.t m;rw[hm] at hmv;simp only[cond_true];exact w0k (hal (s,m) (by simp)) hs.hr hn hmv
def l1p (W:World) (v w:Value) (off:Nat):Prop:=∃b u,w = .pointer (some ⟨b,0,none⟩)∧W.cell? ⟨b,off,none⟩=some u∧w0n v u
theorem w0h {P:Program} {W:World} {F:Fz} {E:EnvM} {N:Nat→Prop} {h:Heap} (hr:HR P W F E N h) {off:Nat} {x:V} {c:Cell} (hx:t0u h off x=some c) {w:Value} (hw:RdV P W F E x w) :
  ∃b u,w = .pointer (some ⟨b,0,none⟩)∧W.cell? ⟨b,off,none⟩=some u∧RdV P W F E (.v false [c]) u:=by
 unfold t0u at hx;split at hx
 case h_2=>cases hx
 rename_i n ver;split at hx
 case h_2=>cases hx
 rename_i ver' t cs fr hn;split at hx
 case isFalse=>cases hx
 rename_i hver;subst hver;obtain ⟨b,arr,T,k1,k2,k3,k4,_⟩:=o0f hr hn;have hp:w = .pointer (some ⟨b,0,none⟩):=hw.single.1.2.2 _ k1;obtain ⟨hlt,_⟩:=List.getElem?_eq_some_iff.1 hx;have hlt':off<arr.toList.length:=by rw[←k3.1];exact hlt
 have hu:arr.toList[off]? = some arr.toList[off]:=List.getElem?_eq_getElem hlt';obtain ⟨r1,r2⟩:=k3.2 off c _ hx hu;refine ⟨b,arr.toList[off],hp,?_,RdV.mk1 r1 r2⟩;have:=cell_of_row W b off arr T (0,0) k2;rw[this]
 first
 | exact hu
 | (rw[←hu];simp)
theorem falB_rd {al:List (Nat×Nat×Nat)} {st:St} (h:falB al st=true) {a:Act} {W:World} {F:Fz} {E:EnvM} (hs:StRel cx W0 F0 O0 nt st a W F E):∀p∈al,l1p W (a.tmps.getD p.1 undef) (a.tmps.getD p.2.1 undef) p.2.2:=by
 intro p hp;have h:=List.all_eq_true.1 h p hp;split at h
 case h_2=>cases h
 rename_i c hc;obtain ⟨b,u,h1,h2,h3⟩:=w0h hs.hr hc (hs.t p.2.1);exact ⟨b,u,h1,h2,v0h h (hs.t p.1) h3⟩
theorem falK_rd {R:Type} {r:R} {k:St→Option R} {a:Act} {W:World} {F:Fz} {E:EnvM}:∀(al:List (Nat×Nat×Nat)) (st:St),falK al st k=some r→(∀p∈al,l1p W (a.tmps.getD p.1 undef) (a.tmps.getD p.2.1 undef) p.2.2)→StRel cx W0 F0 O0 nt st a W F E →
  ∃st',k st'=some r∧StRel cx W0 F0 O0 nt st' a W F E:=by
 intro al;induction al with
 | nil=>intro st h _ hs;exact ⟨st,h,hs⟩
 | cons p al ih =>
  obtain ⟨s,m,off⟩:=p;intro st h hal hs;unfold falK at h;split at h
  case h_2=>cases h
  rename_i n ver hm;split at h
  case h_2=>cases h
  rename_i ver' e xs fr hn;split at h
  case isFalse=>cases h
  rename_i hver;subst hver;refine ih _ h (fun p hp=>hal p (by simp[hp])) ⟨hs.hr,hs.hF,fun s' => ?_,hs.later,hs.frame,hs.own,hs.fz,hs.size,hs.keep,hs.defers,hs.env⟩;simp only[getT];cases hbe:Nat.beq s s' with
  | false=>exact hs.t s'
  | true =>
   have:=Nat.eq_of_beq_eq_true hbe;subst this;simp only[cond_true];obtain ⟨b,u,q1,q2,q3⟩:=w0h hs.hr hm (hs.t m);obtain ⟨b',u',p1,p2,p3⟩:=hal (s,m,off) (by simp);simp only at p1 p2 p3;rw[q1] at p1;injection p1 with p1;injection p1 with p1;injection p1 with p1 _ _;subst p1;rw[q2] at p2;injection p2 with p2;subst p2;exact w0k p3 hs.hr hn q3
def a1l (a:Act) (p:Nat×Option Nat×List Nat):Prop:=match p.2.1 with
 | some f=>a.tmps.getD p.1 undef = .func (.func f) #[] (p.2.2.map fun m=>a.tmps.getD m undef).toArray
 | none=>a.tmps.getD p.1 undef=a.tmps.getD (p.2.2.headD 0) undef
theorem w0g {ms:List Nat} {st:St} {l:List (Nat×Nat)} (h:c1n st.t ms=some l) {a:Act} {W:World} {F:Fz} {E:EnvM} (hs:StRel cx W0 F0 O0 nt st a W F E) :
  ∃bs:List Nat,(ms.map fun m=>a.tmps.getD m undef)=bs.map (fun b=>Value.pointer (some ⟨b,0,none⟩))∧bs.length=l.length∧∀(i:Nat) p b,l[i]? = some p→bs[i]? = some b→p.2≤E.top p.1∧E.m p.1 p.2=some (.box b) :=
 w0i (P:=cx.P) (W:=W) (F:=F) (E:=E) _ (ms.map fun m=>a.tmps.getD m undef) l h (by simp) (fun i p u hp hu=>by
  rw[List.getElem?_map] at hp hu;cases hx:ms[i]? with
  | none=>rw[hx] at hp;cases hp
  | some y =>
   rw[hx] at hp hu;simp only[Option.map_some,Option.some.injEq] at hp hu;subst hp;subst hu
   exact hs.t y)
theorem k1k {al:List (Nat×Option Nat×List Nat)} {st:St} (h:clsB al st=true) {a:Act} {W:World} {F:Fz} {E:EnvM} (hs:StRel cx W0 F0 O0 nt st a W F E):∀p∈al,a1l a p:=by
 intro p hp;have h:=List.all_eq_true.1 h p hp;obtain ⟨s,of,ms⟩:=p;cases of with
 | none =>
  dsimp only at h;have h1:=hs.t s;have h2:=hs.t (ms.headD 0);cases q1:slOf (getT st.t s) with
  | none=>rw[q1] at h;cases h
  | some u =>
   cases q2:slOf (getT st.t (ms.headD 0)) with
   | none=>rw[q1,q2] at h;cases h
   | some w =>
    rw[q1,q2] at h;rw[l0t q1] at h1;rw[l0t q2] at h2;simp only[sameSl,Bool.and_eq_true] at h;have e1:=Nat.eq_of_beq_eq_true h.1;have e2:=Nat.eq_of_beq_eq_true h.2;obtain ⟨_,⟨L,hL⟩,g1⟩:=h1.single.1;obtain ⟨_,_,g2⟩:=h2.single.1;have a1:=g1 L hL;have a2:=g2 L (by rw[←e1,←e2];exact hL);show a.tmps.getD s undef=a.tmps.getD (ms.headD 0) undef;cases L with
    | tree v bs=>exact Eq.trans a1 (Eq.symm a2)
    | box b=>exact a1.elim
    | nil=>exact a1.elim
    | arr b w len cap=>exact a1.elim
 | some f =>
 dsimp only at h;split at h
 case h_2=>cases h
 rename_i l hl;obtain ⟨bs,k1,k2,k3⟩:=w0g hl hs;have hv:=hs.t s;unfold i1b at h;split at h
 case h_2=>cases h
 rename_i g l' hg;rw[hg] at hv;simp only[Bool.and_eq_true,decide_eq_true_eq] at h;have hf:=Nat.eq_of_beq_eq_true h.1;obtain ⟨-,rfl⟩:=h;obtain ⟨bs',e1,e2,e3⟩:=hv.single.1;have hbs:bs'=bs:=by
  apply List.ext_getElem (by omega);intro i h1 h2;have hl':i<l.length:=by omega
  have a1:=(e3 i _ _ (List.getElem?_eq_getElem hl') (List.getElem?_eq_getElem h1)).2;have a2:=(k3 i _ _ (List.getElem?_eq_getElem hl') (List.getElem?_eq_getElem h2)).2;rw[a1] at a2;injection a2 with a2;injection a2
 unfold a1l;rw[e1,k1,hbs,hf]
theorem k1j {R:Type} {r:R} {k:St→Option R} {a:Act} {W:World} {F:Fz} {E:EnvM}:∀(al:List (Nat×Option Nat×List Nat)) (st:St),clsK al st k=some r→(∀p∈al,a1l a p)→StRel cx W0 F0 O0 nt st a W F E →
  ∃st',k st'=some r∧StRel cx W0 F0 O0 nt st' a W F E:=by
 intro al;induction al with
 | nil=>intro st h _ hs;exact ⟨st,h,hs⟩
 | cons p al ih =>
  obtain ⟨s,of,ms⟩:=p;intro st h hal hs;cases of with
  | none =>
   simp only[clsK] at h;split at h
   case h_2=>cases h
   rename_i u hu;refine ih _ h (fun p hp=>hal p (by simp[hp])) ⟨hs.hr,hs.hF,fun s' => ?_,hs.later,hs.frame,hs.own,hs.fz,hs.size,hs.keep,hs.defers,hs.env⟩;simp only[getT];cases hbe:Nat.beq s s' with
   | false=>exact hs.t s'
   | true =>
    have:=Nat.eq_of_beq_eq_true hbe;subst this;have hv:a.tmps.getD s undef=a.tmps.getD (ms.headD 0) undef:=hal (s,none,ms) (by simp);have hm:=hs.t (ms.headD 0);rw[l0t hu] at hm;simp only[cond_true];rw[hv];exact hm
  | some f =>
  simp only[clsK] at h;split at h
  case h_2=>cases h
  rename_i l hl;obtain ⟨bs,k1,k2,k3⟩:=w0g hl hs;refine ih _ h (fun p hp=>hal p (by simp[hp])) ⟨hs.hr,hs.hF,fun s' => ?_,hs.later,hs.frame,hs.own,hs.fz,hs.size,hs.keep,hs.defers,hs.env⟩;simp only[getT];cases hbe:Nat.beq s s' with
  | false=>exact hs.t s'
  | true =>
   have:=Nat.eq_of_beq_eq_true hbe;subst this;have hv:a.tmps.getD s undef = .func (.func f) #[] (ms.map fun m=>a.tmps.getD m undef).toArray:=hal (s,some f,ms) (by simp);simp only[cond_true];rw[hv];exact RdV.mk1 ⟨bs,by rw[k1],k2,k3⟩ rfl
def AliasP (hh:LoopH) (a:Act) (W:World):Prop:=(∀p∈hh.alias,w0n (a.tmps.getD p.1 undef) (a.tmps.getD p.2 undef))∧(∀p∈hh.fal,l1p W (a.tmps.getD p.1 undef) (a.tmps.getD p.2.1 undef) p.2.2)∧∀p∈hh.cls,a1l a p
theorem a1k {hh:LoopH} {st:St} (h:(e1b hh.alias st&&(falB hh.fal st&&clsB hh.cls st))=true) {a:Act} {W:World} {F:Fz} {E:EnvM} (hs:StRel cx W0 F0 O0 nt st a W F E):AliasP hh a W:=by
 rw[Bool.and_eq_true,Bool.and_eq_true] at h;exact ⟨l1j h.1 hs,falB_rd h.2.1 hs,k1k h.2.2 hs⟩
theorem f1j {D:Nat→Nat} (hc:CallSound cx call W0 F0) (hI:Pins fx.top nt D) {hh:LoopH} {rd:Option Nat} {Rf:Type} {ret:St→Option Rf} {c:Code} (hcode:r0e cx call fx W0 F0 O0 nt rd Rf ret c) (hb:b0y nt.nt nt.K c=true) {s:El (b0d hh.outs) ⊕ Rf} {Q:Exit→Act→World→Prop}
  (hl:∀y a' W' F' O,s = .inl y→KeepRel cx W0 F0 O0 nt D hh.outs y a' W' F' O→(∀p∈hh.cls,a1l a' p)→Q (.exit hh.exit) a' W')
  (hr:∀y st' a' W' F' E',s = .inr y→ret st'=some y→StRel cx W0 F0 O0 nt st' a' W' F' E'→Q .ret a' W') :
  ∀(n:Nat) (x:El (b0d hh.live)) (a:Act) (W:World) (F:Fz) (O:List Nat),KeepRel cx W0 F0 O0 nt D hh.live x a W F O→AliasP hh a W →
   f1k cx call fx hh ret (fun st k=>evC cx call fx Rf ret c _ (fun r=>some (.inr r)) st k) n x=some s→Code.roundsIn (Rnd rd) 0 cx.P c Q n a W:=by
 intro n;induction n with
 | zero=>intro x a W F O _ _ h;cases h
 | succ n ih =>
  intro x a W F O hs hal h;simp only[f1k] at h;obtain ⟨st,E,h,hs⟩:=n0u h hI.to hs;obtain ⟨st,h,hs⟩:=l1i _ _ h hal.1 hs;obtain ⟨st,h,hs⟩:=falK_rd _ _ h hal.2.1 hs;obtain ⟨st,h,hs⟩:=k1j _ _ h hal.2.2 hs;refine hcode _ _ st _ s a W F E _ hb hs h (fun e st' a' W' F' E' h1 h2 => ?_) (fun y st' a' W' F' E' h1 h2 h3 => ?_)
  ·cases e with
   | normal =>
    obtain ⟨hal',h1⟩:=a0l h1;have hal':=a1k hal' h2;cases hp:j0v cx call fx st' hh.live with
    | none=>rw[hp] at h1;cases h1
    | some y =>
     rw[hp] at h1;simp only[Option.bind_some] at h1;obtain ⟨F2,O2,hk⟩:=s0y (D:=D) hc h2 hp (fun d hd _=>hI.of E' h2.env d hd);exact ih y a' W' F2 O2 hk hal' h1
   | exit id =>
    dsimp only at h1;split at h1
    case isFalse=>cases h1
    rename_i hid;subst hid;obtain ⟨hcl,h1⟩:=a0l h1;simp only[Option.map_eq_some_iff] at h1;obtain ⟨y,hp,hy⟩:=h1;obtain ⟨F2,O2,hk⟩:=s0y (D:=D) hc h2 hp (fun d hd _=>hI.of E' h2.env d hd);exact hl y a' W' F2 O2 hy.symm hk (k1k hcl h2)
   | ret =>
    simp only[Option.map_eq_some_iff] at h1;obtain ⟨y,hp,hy⟩:=h1;exact hr y st' a' W' F' E' hy.symm hp h2
   | goto l=>cases h1
   | panic ch=>cases h1
   | outgrown=>cases h1
  ·injection h1 with h1;exact hr y st' a' W' F' E' h1.symm h2 h3
theorem StRel.drop {st:St} {a:Act} {W:World} {F:Fz} {E:EnvM} {n ver:Nat} {B:Blk} (hs:StRel cx W0 F0 O0 nt st a W F E) (hn:st.h[n]? = some (ver,some B)) :
  StRel cx W0 F0 O0 nt { st with h:=st.h.set n (ver,none) } a W F E∧∀b,a0p (st.h.set n (ver,none)) E b→∃m,m≠n∧atName st.h E m b:=by
 have hlv:∀b,a0p (st.h.set n (ver,none)) E b→∃m,m≠n∧atName st.h E m b:=by
  rintro b ⟨m,v,B',L,h1,h2,h3⟩;by_cases e:m=n
  ·subst e;rw[List.getElem?_set] at h1;simp only[if_true] at h1;split at h1
   ·injection h1 with h1;injection h1 with _ h1;cases h1
   ·cases h1
  ·rw[List.getElem?_set_ne (fun h=>e h.symm)] at h1;exact ⟨m,e,v,B',L,h1,h2,h3⟩
 have live:∀b,a0p (st.h.set n (ver,none)) E b→a0p st.h E b:=fun b hb=>by
  obtain ⟨m,_,h⟩:=hlv b hb;exact ⟨m,h⟩
 exact ⟨⟨hs.hr.put trivial (EnvLe.refl E) (hs.hr.top n ver _ trivial hn).symm (fun _ _=>rfl) (Later.refl W F) (fun b _=>⟨rfl,fun h=>h⟩) (fun B hB=>by cases hB),hs.hF,hs.t,hs.later,hs.frame,fun b hb=>hs.own b (live b hb),hs.fz,hs.size,hs.keep,
  ⟨hs.defers.1,hs.defers.2.turn fun D _ _ h1 h2 _=>⟨rfl,h1,fun h=>h2 (live D h)⟩⟩,hs.env⟩,hlv⟩
theorem evC_all (tab:e0d cx) (hfn:FnOk cx call) (hin:InOk cx call) (hm:cx.P.follows .mixedOrders=true) {Rf:Type} {ret:St→Option Rf}:∀(c:Code) (W0:World) (F0:Fz) (O0:List Nat) (nt:Slots) (rd:Option Nat),
  CallSound cx call W0 F0→(fx.loops=[]∨l0k fx.top nt∨k0v c=true)→((fx.loops=[]∧rd=none)∨(nt.md=true∧rd=none)∨noRF c=true)→(fx.thaw=[]∨nt.md=false)→r0e cx call fx W0 F0 O0 nt rd Rf ret c:=by
 intro c;induction c with
 | skip=>intro W0 F0 O0 nt rd hc hI hR hT R kr st k r a W F E Q _ hs h hk _;exact wpIn_skip (hk _ st a W F E h hs)
 | ret=>intro W0 F0 O0 nt rd hc hI hR hT R kr st k r a W F E Q _ hs h hk _;exact wpIn_ret (hk _ st a W F E h hs)
 | exit id=>intro W0 F0 O0 nt rd hc hI hR hT R kr st k r a W F E Q _ hs h hk _;exact wpIn_exit (hk _ st a W F E h hs)
 | region id ops draw =>
  intro W0 F0 O0 nt rd hc hI hR hT R kr st k r a W F E Q hb hs h hk _;exact u0m hc tab hfn hin hm hb hs h fun st' a' W' F' E' h1 h2=>hk _ st' a' W' F' E' h1 h2
 | seq x y ihx ihy =>
  intro W0 F0 O0 nt rd hc hI hR hT R kr st k r a W F E Q hb hs h hk hkr;simp only[noRF,Bool.and_eq_true] at hR;simp only[k0v,Bool.and_eq_true] at hI;simp only[b0y,Bool.and_eq_true] at hb;have ihx0:=fun W0 F0 O0 nt=>ihx W0 F0 O0 nt rd
  have ihx:=ihx W0 F0 O0 nt rd hc (hI.imp id fun q=>q.imp id (·.1)) (hR.imp id fun q=>q.imp id (·.1)) hT;have ihy:=ihy W0 F0 O0 nt rd hc (hI.imp id fun q=>q.imp id (·.2)) (hR.imp id fun q=>q.imp id (·.2)) hT;simp only[evC] at h;cases hth:c1q fx x y with
  | false =>
   refine wpIn_seq (ihx R kr st _ r a W F E _ hb.1 hs h (fun e st' a' W' F' E' h1 h2 => ?_) (fun z st' a' W' F' E' h1 h2 h3=>hkr z st' a' W' F' E' h1 h2 h3));cases e with
   | normal =>
    simp only[hth,cond_false] at h1;exact ihy R kr st' k r a' W' F' E' Q hb.2 h2 h1 hk hkr
   | _=>exact hk _ st' a' W' F' E' h1 h2
  | true =>
   obtain ⟨hne,hfl⟩:=a1q hth;have hmd:=hT.resolve_left hne;have hK:∀i∈nt.K,i<nt.nt→i ∉ q0d x:=fun i hi _=>below_no x hfl hb.1 i hi
   have hb1:b0y (e1k nt a E (q0d x)).nt (e1k nt a E (q0d x)).K x=true:=g1l x hfl hb.1 fun d hd hm=>by
    have:=(List.mem_filter.1 hm).2;rw[b0r.2 hd] at this;cases this
   refine wpIn_seq (ihx0 W F (f1l st.h E W.heap.size) (e1k nt a E (q0d x)) (hc.later hs.later) (.inr (.inr hfl)) (.inr (.inr (f1y x hfl))) (.inr rfl) R kr st _ r a W F E _ hb1 (hs.into hmd _) h
    (fun e st' a' W' F' E' h1 h2 => ?_) (fun z st' a' W' F' E' h1 h2 h3=>hkr z st' a' W' F' E' h1 h2 (hs.outOf h3 hK)))
   cases e with
   | normal =>
    simp only[hth,cond_true] at h1;exact ihy R kr _ k r a' W' F E' Q hb.2 (hs.thaw h2 hK) h1 hk hkr
   | _=>exact hk _ st' a' W' F' E' h1 (hs.outOf h2 hK)
 | cond z x y ihx ihy =>
  intro W0 F0 O0 nt rd hc hI hR hT R kr st k r a W F E Q hb hs h hk hkr;simp only[noRF,Bool.and_eq_true] at hR;simp only[k0v,Bool.and_eq_true] at hI;have ihx:=ihx W0 F0 O0 nt rd hc (hI.imp id fun q=>q.imp id (·.1)) (hR.imp id fun q=>q.imp id (·.1)) hT;have ihy:=ihy W0 F0 O0 nt rd hc (hI.imp id fun q=>q.imp id (·.2)) (hR.imp id fun q=>q.imp id (·.2)) hT;simp only[b0y,Bool.and_eq_true] at hb;simp only[evC] at h;split at h
  case h_3=>cases h
  case h_2 =>
   rename_i hz;have hv:=m0c (hc.glob.later hs.later) hs.t z;rw[hz] at hv;obtain ⟨b,hv⟩:∃b,_=Value.bool b:=hv.single.1;obtain ⟨h1,h2⟩:=k1t h;cases b with
   | true=>exact wpIn_cond_true hv (ihx R kr st k r a W F E Q hb.1 hs h1 hk hkr)
   | false=>exact wpIn_cond_false hv (ihy R kr st k r a W F E Q hb.2 hs h2 hk hkr)
  rename_i b hz;have hv:=m0c (hc.glob.later hs.later) hs.t z;rw[hz] at hv;have hv:=n0y hv;cases b with
  | true=>exact wpIn_cond_true hv (ihx R kr st k r a W F E Q hb.1 hs h hk hkr)
  | false=>exact wpIn_cond_false hv (ihy R kr st k r a W F E Q hb.2 hs h hk hkr)
 | label l=>intro W0 F0 O0 nt rd hc hI hR hT R kr st k r a W F E Q _ hs h hk _;exact wpIn_label (hk _ st a W F E h hs)
 | scope x ih =>
  intro W0 F0 O0 nt rd hc hI hR hT R kr st k r a W F E Q hb hs h hk hkr;have hI:fx.loops=[]∨l0k fx.top nt:=hI.imp id fun q=>q.elim id fun q=>(by cases q)
  have hrd:rd=none:=by
   rcases hR with q | q | q
   ·exact q.2
   ·exact q.2
   ·cases q
  subst hrd;have hR:(fx.loops=[]∧(none:Option Nat)=none)∨(nt.md=true∧(none:Option Nat)=none)∨noRF x=true:=by
   rcases hR with q | q | q
   ·exact .inl q
   ·exact .inr (.inl q)
   ·cases q
  have ih:=ih W0 F0 O0 nt none hc (hI.imp id .inl) hR hT;simp only[evC] at h;refine wpIn_wide.2 (wp_scope_straight (wpIn_wide.1 (ih R kr st _ r a W F E _ hb hs h (fun e st' a' W' F' E' h1 h2 => ?_) (fun z st' a' W' F' E' h1 h2 h3=>hkr z st' a' W' F' E' h1 h2 h3))));cases e with
  | goto l=>cases h1
  | _=>exact hk _ st' a' W' F' E' h1 h2
 | block id x ih =>
  intro W0 F0 O0 nt rd hc hI hR hT R kr st k r a W F E Q hb hs h hk hkr;have ih:=ih W0 F0 O0 nt rd hc hI hR hT;refine wpIn_block (ih R kr st _ r a W F E _ hb hs h (fun e st' a' W' F' E' h1 h2 => ?_) (fun z st' a' W' F' E' h1 h2 h3=>hkr z st' a' W' F' E' h1 h2 h3));cases e with
  | exit id' =>
   dsimp only at h1;simp only[Exit.inBlock];split at h1
   ·rename_i he;rw[if_pos he];exact hk _ st' a' W' F' E' h1 h2
   ·rename_i he;rw[if_neg he];exact hk _ st' a' W' F' E' h1 h2
  | _=>exact hk _ st' a' W' F' E' h1 h2
 | loop x ih =>
  intro W0 F0 O0 nt rd hc hI hR hT R kr st k r a W F E Q hb hs h hk hkr;have hI:fx.loops=[]∨l0k fx.top nt:=hI.imp id fun q=>q.elim id fun q=>(by cases q)
  have ih0:=ih;have ih:=ih W0 F0 O0 nt rd hc (hI.imp id .inl) hR hT;simp only[evC] at h;split at h
  ·exact wpIn_loop_rounds a0b (u0x ih hb hk hkr a0b st a W F E hs h)
  ·rename_i hh hhint;have hI:l0k fx.top nt:=by
    rcases hI with q | q
    ·exfalso;unfold hintOf at hhint;rw[q] at hhint;split at hhint<;>simp at hhint
    ·exact q
   cases hof:ownfB hh.ownf st with
   | false =>
    rw[hof] at h;exact wpIn_loop_rounds 1 (u0x ih hb hk hkr 1 st a W F E hs h)
   | true =>
   rw[hof] at h;obtain ⟨hal,h⟩:=a0l h;have hal:=a1k hal hs;cases hp:j0v cx call fx st hh.live with
   | none=>rw[hp] at h;cases h
   | some y =>
    rw[hp] at h;simp only[Option.bind_some] at h;cases hl:f1k cx call fx hh ret (fun st k=>evC cx call fx Rf ret x _ (fun r=>some (.inr r)) st k) a0b y with
    | none=>rw[hl] at h;cases h
    | some s =>
     rw[hl] at h;simp only[Option.bind_some] at h;obtain ⟨F2,O2,hkp⟩:=s0y (D:=dOf E) hc hs hp (fun d _ hb=>k1h d hb);have hP:=Slots.pin_pins (nt:=nt) fx.top (dOf E);have ihP:=ih0 W0 F0 O0 (nt.pin fx.top (dOf E)) rd hc (.inr (.inl hP.carry)) hR hT;refine wpIn_loop_rounds a0b (f1j hc hP ihP hb (s:=s) (fun z a' W' F' O he hz hcl => ?_) (fun z st' a' W' F' E' he h1 h2 => ?_) a0b y a W F2 O2 hkp.pin hal hl)
     ·subst he;obtain ⟨st',E',h1,h2⟩:=n0u h (fun E' hp=>hI E E' hs.env hp) hz.unpin;obtain ⟨st',h1,h2⟩:=k1j _ _ h1 hcl h2;have h1:=q0u h1;exact hk _ st' a' W' F' E' h1 h2
     ·subst he;exact hkr z st' a' W' F' E' h h1 (h2.unpin (hI E E' hs.env h2.env))
 | rangeFunc g ps x y ihx ihy =>
  intro W0 F0 O0 nt rd hc hI hR hT R kr st k r a W F E Q hb hs h hk hkr;simp only[evC] at h;split at h
  case h_2=>cases h
  rename_i hh n v0 hhint hop;have hne:fx.loops≠[]:=by
   intro q;unfold hintOf at hhint;rw[q] at hhint;split at hhint<;>simp at hhint
  have hI':l0k fx.top nt:=(hI.resolve_left hne).elim id fun q=>(by cases q)
  obtain ⟨hmd,rfl⟩:nt.md=true∧rd=none:=by
   rcases hR with q | q | q
   ·exact absurd q.1 hne
   ·exact q
   ·cases q
  have hT0:fx.thaw=[]:=hT.elim id fun q=>by rw[hmd] at q;cases q
  split at h
  case h_2=>cases h
  rename_i ver n' base top e xs hn;split at h
  case isFalse=>cases h
  rename_i hcond;obtain ⟨rfl,hb1,hb2,rfl⟩:=hcond;obtain ⟨hrb,h⟩:=a0l h;simp only[rangeB,Bool.and_eq_true] at hrb;obtain ⟨p1,p2,p3,p4,p5⟩:=hrb;simp only[b0y,Bool.and_eq_true] at hb;obtain ⟨c1,c2,c3⟩:=hb;obtain ⟨_,L,hL,w,bs,rfl,g1,g2,g3,g4,g5⟩:=hs.hr.blk n _ _ hn;obtain ⟨⟨_,hseq⟩,s2,s3⟩:=g5 rfl;have hv:=m0c (hc.glob.later hs.later) hs.t g;rw[hop] at hv;obtain ⟨bs',hbs'⟩:=g3 v0 hb1 hb2;have hvw:a.eval g=w:=hv.single.1.2.2 _ hbs';have hat:∀b∈bs,atName st.h E n b:=fun b hb=>⟨_,_,_,hn,hL,hb⟩
  obtain ⟨hs0,hlv⟩:=hs.drop hn;cases hp:j0v cx call fx { st with h:=st.h.set n (top,none) } hh.live with
  | none=>rw[hp] at h;cases h
  | some u =>
   rw[hp] at h;simp only[Option.bind_some] at h;obtain ⟨F2,O2,hkp,hO2,hF2,hl2⟩:=p0u (D:=dOf E) hc hs0 hp (fun d _ hb=>k1h d hb);have apart:∀b∈bs,¬a0p (st.h.set n (top,none)) E b:=fun b hb hl=>by
    obtain ⟨m,hm,hat'⟩:=hlv b hl;exact hm (b0h hs.hr hat' (hat b hb))
   have live:∀b,a0p (st.h.set n (top,none)) E b→a0p st.h E b:=fun b hl=>by
    obtain ⟨m,_,hat'⟩:=hlv b hl;exact ⟨m,hat'⟩
   cases hf:seqF cx call fx hh.live e ps.toList (fun st k=>evC cx call fx Rf ret x _ (fun _=>none) st (onN fun st=>evC cx call fx Rf ret y _ (fun _=>none) st (onN k))) xs u with
   | none=>rw[hf] at h;cases h
   | some z =>
    rw[hf] at h;simp only[Option.bind_some] at h;refine a1z (fun l W0 F0 O0 nt hc hI=>ihx W0 F0 O0 nt (some l) hc (.inr (.inl hI)) (.inr (.inr p4)) (.inl hT0)) (fun l W0 F0 O0 nt hc hI=>ihy W0 F0 O0 nt (some l) hc (.inr (.inl hI)) (.inr (.inr p5)) (.inl hT0)) hc (Slots.pin_pins (nt:=nt) fx.top (dOf E)) hmd ?_ (w0j _ p4 c2 p2) (w0j _ p5 c3 p3) hkp.pin
     (hseq.later hl2 fun _ _=>rfl) hvw (fun b hb h=>apart b hb (hO2 b h)) (fun b hb h=>(hF2 b h).elim (s3 b hb) (apart b hb)) (fun b hb=>hs.own b ⟨n,hat b hb⟩) ?_ hf ?_
    ·show ∀p∈ps.toList,p<nt.nt∧p ∉ nt.K∧p ∉ hh.live.map (·.1);intro p hpm;have k1:=List.all_eq_true.1 c1 p hpm;have k2:=List.all_eq_true.1 p1 p hpm;simp only[Bool.and_eq_true,Bool.not_eq_true'] at k1 k2;refine ⟨by simpa [Nat.blt_eq] using k1.1,fun h => ?_,fun h => ?_⟩
     ·rw[b0r.2 h] at k1;exact absurd k1.2 (by simp)
     ·rw[b0r.2 h] at k2;cases k2
    ·exact hs.defers.2.turn fun D _ _ d1 d2 _=>⟨rfl,fun h=>(hF2 D h).elim d1 fun h=>d2 (live D h),fun h=>h.elim (fun h=>d2 (live D (hO2 D h))) fun h=>d2 ⟨n,hat D h⟩⟩
    ·intro a' W' F' O' hz;obtain ⟨st',E',h1,h2⟩:=n0u h (fun E' hp=>hI' E E' hs.env hp) hz.unpin;exact hk _ st' a' W' F' E' (q0u h1) h2
 | _=>intro W0 F0 O0 nt rd hc hI hR hT R kr st k r a W F E Q _ _ h;cases h
theorem z0x (hc:CallSound cx call W0 F0) (tab:e0d cx) (hfn:FnOk cx call) (hin:InOk cx call) (hI:fx.loops=[]∨l0k fx.top nt) (hm:cx.P.follows .mixedOrders=true) {rd:Option Nat} {Rf:Type} {ret:St→Option Rf} (c:Code) (hR:(fx.loops=[]∧rd=none)∨(nt.md=true∧rd=none)∨noRF c=true) (hT:fx.thaw=[]∨nt.md=false):r0e cx call fx W0 F0 O0 nt rd Rf ret c :=
 evC_all tab hfn hin hm c W0 F0 O0 nt rd hc (hI.imp id .inl) hR hT
end
end Go.Flat
end
section
namespace Go.Flat
open Go.RowKit (Below)
theorem b0s.get:∀ {ts:List Ty} {vs:List Value},b0s ts vs→∀ {i:Nat} {t:Ty},ts[i]? = some t→∃v,vs[i]? = some v∧formed t v:=by
 intro ts;induction ts with
 | nil=>intro vs _ i t h;simp at h
 | cons t ts ih =>
  intro vs h i u hu;cases vs with
  | nil=>exact h.elim
  | cons v vs =>
   cases i with
   | zero=>simp at hu;subst hu;exact ⟨v,rfl,h.1⟩
   | succ i=>simpa using ih h.2 (by simpa using hu)
section
variable {cx:Cx} {call:Oracle cx} {fx:Hints} {W0 W W':World} {F0 F F':Fz} {O0:List Nat} {E E':EnvM} {h:Heap} {a:Act} {R:Type} {nt:Slots} {st:St}
def resF (tmps : Array Value) : ResultVar → Sem Value := fun r => match r with
    | .tmp t=>pure (tmps.getD t undef)
    | .cell a t=>do loadVar t (←asAddr (tmps.getD a undef))
theorem e1t (tab:e0d cx) (hr:HR cx.P W F E (fun _=>True) h) {t:List (Nat×V)} (ht:∀s,RdV cx.P W F E (getT t s) (a.tmps.getD s undef)):∀(rvs:List ResultVar) (ts:List Ty) (cs:List Cell),d0q cx h t rvs ts=some cs →
  ∃ws,b0s ts ws∧a0d cx.P W F E cs (ws.flatMap fun v=>v.cells.toList)∧(rvs.mapM (resF a.tmps)).run cx.P W = .ok ws W:=by
 intro rvs;induction rvs with
 | nil =>
  intro ts cs hk;cases ts with
  | nil =>
   simp only[d0q,Option.some.injEq] at hk;subst hk;exact ⟨[],trivial,a0d.nil,rfl⟩
  | cons t ts=>simp[d0q] at hk
 | cons rv rvs ih =>
  intro ts cs hk;cases ts with
  | nil=>cases rv<;>simp[d0q] at hk
  | cons ty ts =>
   cases rv with
   | tmp s =>
    simp only[d0q] at hk;split at hk
    case h_2=>cases hk
    rename_i ag cs1 hg;split at hk
    case isFalse=>cases hk
    rename_i hag;simp only[Option.map_eq_some_iff] at hk;obtain ⟨cs2,h2,rfl⟩:=hk;have hv:=ht s;rw[hg] at hv;obtain ⟨ws,k1,k2,k3⟩:=ih ts cs2 h2;have hw:(a.tmps.getD s undef).cells.size=width ty:=by
     have h1:cs1.length=(a.tmps.getD s undef).cells.toList.length:=hv.1.1;rw[Array.length_toList] at h1;exact h1.symm.trans hag.2
    refine ⟨a.tmps.getD s undef::ws,⟨RdV1.formed hv hag.1 hw,k1⟩,?_,?_⟩
    ·rw[List.flatMap_cons];exact hv.1.append k2
    ·rw[List.mapM_cons];simp[resF,k3]
   | cell s ct =>
    simp only[d0q] at hk;split at hk
    case h_2=>cases hk
    rename_i ac c hg hc;split at hk
    case isFalse=>cases hk
    rename_i hag;have hv:=x0z (ht s);rw[hg] at hv;rw[d1i] at hk;obtain ⟨cs1,h1,h2,b,o,vs,h3,h4,h5⟩:=x0k hr hk hv.single.1;simp only[Option.map_eq_some_iff] at h1;obtain ⟨cs2,q2,rfl⟩:=h1;obtain ⟨ws,k1,k2,k3⟩:=ih ts cs2 q2;obtain ⟨⟨ti,t1,t2,_⟩,t3,t4,t5,t6⟩:=k0k tab hc;have hl:vs.length=ti.size:=by rw[←h4.1,h2,t2]
    have hrun:=e0g (P:=cx.P) (W:=W) (b:=b) (o:=o) t1 t6 hl h5 (fun e=>by rw[hl,t2];exact t5 (t3.trans e));have hV:=h4.mkV (ag:=agg c) (fun e=>by rw[h2];exact t5 e);rw[←t3] at hrun;generalize (if agg c=true then Value.agg vs.toArray else vs.headD .nilFunc)=w at hrun hV;have hw:w.cells.size=width ty:=by
     have h1':cs1.length=w.cells.toList.length:=hV.1.1;rw[Array.length_toList] at h1';exact h1'.symm.trans (h2.trans hag.2)
    refine ⟨w::ws,⟨RdV1.formed hV hag.1 hw,k1⟩,?_,?_⟩
    ·rw[List.flatMap_cons];exact hV.1.append k2
    ·rw[List.mapM_cons];simp[resF,h3,asAddr,hrun,k3]
theorem s0l {fn:Func} {ws:List Value} {P:Program} (h:(fn.results.toList.mapM (resF a.tmps)).run P W = .ok ws W):(results fn a.tmps).run P W = .ok (q0s ws) W:=by
 have e:results fn a.tmps=(do let vs ←fn.results.mapM (resF a.tmps);pure (if h:vs.size=1 then vs[0] else .tuple vs)):=rfl;rw[e,Array.mapM_eq_mapM_toList];simp only[Sem.run_bind,map_eq_pure_bind,h,Result.andThen_ok,Sem.run_pure];congr 1;unfold q0s
 match ws with
 | []=>rfl
 | [w]=>rfl
 | w::w2::r=>simp
theorem c1o {P:Program} {ps:List Ty} {args:List Value} (hf:b0s ps args) {t:List (Nat×V)}:∀(back:List Nat),(back.all fun i=>isRef ps[i]?)=true→(∀i∈back,∀v,args[i]? = some v→RdV P W F E (getT t i) v) →
  a0d P W F E (back.map fun i=>p0b (getT t i)) ((back.filterMap (args[·]?)).flatMap fun v=>v.cells.toList):=by
 intro back;induction back with
 | nil=>intro _ _;exact a0d.nil
 | cons i r ih =>
  intro hall hv;simp only[List.all_cons,Bool.and_eq_true] at hall;have ih:=ih hall.2 fun j hj=>hv j (by simp[hj])
  have hp:∃p,ps[i]? = some p∧agg p=false:=by
   have:=hall.1;unfold isRef at this;split at this
   ·rename_i e he;exact ⟨_,he,rfl⟩
   ·rename_i d e he;exact ⟨_,he,rfl⟩
   ·rename_i e he;exact ⟨_,he,rfl⟩
   ·rename_i e he;exact ⟨_,he,rfl⟩
   ·rename_i T e he;exact ⟨_,he,rfl⟩
   ·rename_i kt e he;exact ⟨_,he,rfl⟩
   ·cases this
  obtain ⟨p,hp,hagg⟩:=hp;obtain ⟨v,h1,h2⟩:=hf.get hp;have hone:=h2.2.1 hagg;have hcells:=oneCell_cells hone;have hrd:=hv i (by simp) v h1;simp only[List.map_cons,List.filterMap_cons,h1,List.flatMap_cons];rw[hcells];show a0d P W F E (p0b (getT t i)::_) (v::_);refine a0d.cons.2 ⟨⟨?_,hone⟩,ih⟩;unfold p0b;split
  ·rename_i ag c cs hg;rw[hg] at hrd;have:=hrd.1;rw[hcells] at this;obtain ⟨u,us,hu,q1,_⟩:=this.uncons;simp only[List.cons.injEq] at hu;rw[hu.1];exact q1
  ·trivial
theorem retK_rd {D:Nat→Nat} (hc:CallSound cx call W0 F0) (tab:e0d cx) {fn:Func} {s:Sig} {args:List Value} (hf:b0s s.ps args) (hback:(s.back.all fun i=>isRef s.ps[i]?)=true) (hs:StRel cx W0 F0 O0 nt st a W F E) (hK:nt.K=s.back)
  (hkv:∀i v,args[i]? = some v→nt.kv i=v) (hpe:PinE (w0s s.ps) D E) {y:El (tup (s.rs++s.back.filterMap (s.ps[·]?)))} (hk:retK cx call fn s st=some y) :
  ∃v F',(results fn a.tmps).run cx.P W = .ok v W∧Move W0 F0 O0 W F'∧Ret cx.P D W0 O0 s args (tup (s.rs++s.back.filterMap (s.ps[·]?))) y W F' v:=by
 unfold retK at hk;split at hk
 case h_2=>cases hk
 rename_i cs hcs;split at hk
 case h_2=>cases hk
 rename_i z taken lent hp;split at hk
 case isFalse=>cases hk
 rename_i hnd;obtain ⟨hpin,hk⟩:=a0l hk;injection hk with hk;subst hk;obtain ⟨ws,k1,k2,k3⟩:=e1t tab hs.hr hs.t fn.results.toList s.rs cs hcs;have hb:=c1o (P:=cx.P) (W:=W) (F:=F) (E:=E) (t:=st.t) hf s.back hback (fun i hi v hv=>by
  have:=hs.t i;rw[hs.keep i (by rw[hK];exact hi),hkv i v hv] at this
  exact this)
 obtain ⟨O,m1,m2,m3⟩:=p0v (D:=D) (hc.later hs.later) hs.hr hp (fun p hpm=>by
  obtain ⟨q1,q2,q3⟩:=c1z hpin hpm;rw[q1,q2]
  exact (hpe p.1 q3).1) (k2.append hb)
 rw[←List.flatMap_append] at m1;have hnd':=l0c hnd;have own:∀n b,atName st.h E n b→b∈O0∨W0.heap.size≤b:=fun n b hat=>hs.own b ⟨n,hat⟩
 refine ⟨q0s ws,a0g F st.h E lent,s0l k3,⟨hs.later.trans (a0z lent),hs.frame,fun b hb => ?_⟩,ws,O,k1,rfl,m1,m2.nodup hnd'.1,?_,fun b hb => ?_⟩
 ·have hlt:=a0g.lt hs.hr hs.hF hb;rcases hb with hb | ⟨n,_,hat⟩
  ·rcases hs.fz b hb with q | q | q
   ·exact .inl q
   ·exact .inr (.inl q)
   ·exact .inr (.inr ⟨q,hlt⟩)
  ·rcases own n b hat with q | q
   ·exact .inr (.inl q)
   ·exact .inr (.inr ⟨q,hlt⟩)
 ·rintro b hb (hf | ⟨n,hn,hat⟩)
  ·exact m2.free b hb hf
  ·obtain ⟨m,hm,hat'⟩:=m2.at_ b hb;exact hnd'.2.2 m hm n hn (b0h hs.hr hat' hat)
 ·obtain ⟨n,_,hat⟩:=m2.at_ b hb;exact own n b hat
theorem k1f {P:Program} {top:Nat} {D:Nat→Nat}:∀(ps:List Ty) (x:El (tupU ps)) (vs:List Value) (h:Heap) (nm:Nat) (k:List V→Heap→Nat→Option R) (r:R),d1v top ps x h nm k=some r →
  ∀ {E:EnvM} {O:List Nat},HR P W F E (fun _=>True) h→PinE top D E→b0s ps vs→RdB P D (tupU ps) x W F O (cat vs)→O.Nodup→(∀b∈O,¬F b)→(∀b∈O,¬a0p h E b) →
   ∃us h' nm' E',k us h' nm'=some r∧EnvLe E E'∧HR P W F E' (fun _=>True) h'∧us.length=vs.length∧(∀(i:Nat) p u,us[i]? = some p→vs[i]? = some u→RdV P W F E' p u)∧(∀b,a0p h' E' b→a0p h E b∨b∈O):=by
 intro ps;induction ps with
 | nil =>
  intro x vs h nm k r hk E O hr hpe hf _ _ _ _;have:vs=[]:=List.eq_nil_of_length_eq_zero hf.length;subst this;exact ⟨[],h,nm,E,hk,EnvLe.refl E,hr,rfl,fun i p u hp=>by simp at hp,fun b hb => .inl hb⟩
 | cons p ps ih =>
  intro x vs h nm k r hk E O hr hpe hf hx hO hF hL;cases vs with
  | nil=>exact hf.elim
  | cons v vs =>
   simp only[d1v,b0n] at hk;obtain ⟨hfr,hk⟩:=a0l hk;rw[Bool.and_eq_true] at hfr;obtain ⟨hfr,htk⟩:=hfr;obtain ⟨f1,f2⟩:=w0c hfr;obtain ⟨O1,O2,rfl,x1,x2⟩:=hx;rw[List.nodup_append] at hO;obtain ⟨E1,c1,cc1⟩:=f0q h dm1 p x.1 [] nm hr x1 hO.1 (fun b hb=>hF b (by simp[hb])) (fun b hb=>hL b (by simp[hb])) (fun n hn=>⟨trivial,f1 n hn,a0y hr trivial (f1 n hn)⟩) f2 (g1y hpe htk);have hlive:∀b∈O2,¬a0p (b0w h (a0t h dm1 p x.1 [] nm).2.1) E1 b:=by
    rintro b hb ⟨m,hat⟩;rcases c1.at_ m b hat with ⟨_,k⟩ | ⟨_,k⟩
    ·exact hO.2.2 b k b hb rfl
    ·exact hL b (by simp[hb]) ⟨m,k⟩
   rw[f0l hf.1.2.2] at x2;obtain ⟨us,h',nm',E2,m0,m1,m2,m3,m4,m5⟩:=ih x.2 vs _ _ _ r hk c1.hr (hpe.mono c1.env) hf.2 x2 hO.2.1 (fun b hb=>hF b (by simp[hb])) hlive;refine ⟨_,h',nm',E2,m0,c1.env.trans m1,m2,by simp[m3],fun i q u hq hu => ?_,fun b hb => ?_⟩
   ·cases i with
    | zero =>
     simp at hq hu;subst hq;subst hu;exact (k1o hf.1 cc1 (e0l hf.1.2.2)).later (Later.refl W F) m1
    | succ i=>exact m4 i q u (by simpa using hq) (by simpa using hu)
   ·rcases m5 b hb with ⟨m,hat⟩ | q
    ·rcases c1.at_ m b hat with ⟨_,k⟩ | ⟨_,k⟩
     ·exact .inr (by simp[k])
     ·exact .inl ⟨m,k⟩
    ·exact .inr (by simp[q])
theorem q0w:∀(us:List V) (b s:Nat),getT (numbered b us) s=if b≤s then (us[s-b]?).getD .lost else .lost:=by
 intro us;induction us with
 | nil=>intro b s;simp[numbered,getT]
 | cons u us ih =>
  intro b s;simp only[numbered,getT];cases hb:Nat.beq b s with
  | true =>
   have:=Nat.eq_of_beq_eq_true hb;subst this;simp
  | false =>
   simp only[cond_false];rw[ih];have hne:b≠s:=fun e=>by subst e;simp at hb
   by_cases hle:b≤s
   ·rw[if_pos hle,if_pos (by omega),show s-b=(s-(b+1))+1 by omega];simp
   ·rw[if_neg hle,if_neg (by omega)]
theorem z0m {fn:Func} {Rp:Ending→World→Prop}:∀(ds:List Deferred) (a:Act) (W:World),a.defers=ds→StRel cx W0 F0 O0 nt st a W F E →
  (∀a' W',a'.tmps=a.tmps→StRel cx W0 F0 O0 nt st a' W' F E→∃v,(results fn a.tmps).run cx.P W' = .ok v W'∧Rp (.returned v) W')→LeavesInM (Rnd none) 0 cx.P fn a.tmps Rp ds .returning W:=by
 intro ds;induction ds with
 | nil =>
  intro a W _ hs h;exact h a W rfl hs
 | cons d ds ih =>
  intro a W hd hs h;have hok:=hs.defers.2;rw[hd] at hok;obtain ⟨D,rfl,k2,k3,k4,k5⟩:=hok.at_ d List.mem_cons_self;have hnd:=List.nodup_cons.1 hok.nodup;refine ⟨(by simp),.inl ⟨D,_,rfl,run_takeDeferred k2,ih { a with defers:=ds } _ rfl ?_ h⟩⟩;have hl:=g0v (W:=W) (o := .deferred none) k4;refine ⟨hs.hr.world hl (fun b hb=>⟨World.putObj_heap_other (fun e=>k5 (e ▸ hb)),fun h=>h⟩),fun b hb=>by simpa using hs.hF b hb,fun s=>(hs.t s).later hl (EnvLe.refl E),hs.later.trans hl,fun b hb hO => ?_,hs.own,hs.fz,hs.size,hs.keep,
   ⟨(fun q=>by have:=hs.defers.1 q;rw[hd] at this;cases this),hnd.2,fun d' hd' => ?_⟩,hs.env⟩
  ·rw[World.putObj_heap_other (by omega)];exact hs.frame b hb hO
  ·obtain ⟨D',q1,q2,q3⟩:=hok.at_ d' (List.mem_cons_of_mem _ hd');refine ⟨D',q1,(World.putObj_heap_other (fun e => ?_)).trans q2,q3⟩;subst e;exact hnd.1 (q1 ▸ hd')
theorem FnOk.body (hp:Fns cx) (tab:e0d cx) (hfn:FnOk cx call) (hin:InOk cx call) (hm:cx.P.follows .mixedOrders=true) {iq:(R:Type)→FuncId→List V→Heap→Nat→(V→Heap→Option R)→Option R}:FnOk cx ⟨Flat.body cx call,iq⟩:=by
 intro f s hs x y hy D W F O vs hg hF hforms hrd hnd hfree;have hc:CallSound cx call W F:=FnOk.closed hp hfn hg;dsimp only at hy;unfold Flat.body at hy;rw[hs] at hy;dsimp only at hy;cases hfun:cx.P.funcs[f]? with
 | none=>rw[hfun] at hy;cases hy
 | some fn =>
  rw[hfun] at hy;dsimp only at hy;split at hy
  case h_2=>cases hy
  rename_i c x' hb hx';obtain ⟨hok,hy⟩:=a0l hy;obtain ⟨ex,rfl⟩:=a0v hx';simp only[okBody,Bool.and_eq_true] at hok;obtain ⟨⟨hbelow,hps,hback⟩,htop⟩:=hok;have htop:w0s s.ps≤(cx.hints f).top:=by simpa [Nat.ble_eq] using htop
  have hps:s.ps.length≤fn.ntmps:=by simpa [Nat.ble_eq] using hps
  have hlen:=hforms.length;obtain ⟨us,h',nm',E,hk,hEle,hr,hul,hus,hlive⟩:=k1f (P:=cx.P) (W:=W) (F:=F) s.ps (ex ▸ x) vs (o0a (cx.hints f) (w0s s.ps)) _ _ y hy (v0v _ _ D) (q0a _ D) hforms (RdB.cast ex hrd) hnd hfree (fun b _=>j0c _);clear hy;obtain ⟨fx',hfxt,hk⟩:=a1s hk;have hEp:PinE (w0s s.ps) D E:=(q0a _ D).mono hEle;have hcalm:(fx'.calm c).top=fx'.top:=by unfold Hints.calm;split<;>(try rfl);cases noRF c<;>rfl
  have hget:∀s,({ tmps:=vs.toArray++Array.replicate (fn.ntmps-vs.toArray.size) undef,defers:=[] }:Act).tmps.getD s undef=(vs[s]?).getD undef:=by
   intro s;simp only[Array.getD_eq_getD_getElem?,Array.getElem?_append,List.size_toArray,List.getElem?_toArray];by_cases hlt:s<vs.length
   ·rw[if_pos hlt]
   ·rw[if_neg hlt,List.getElem?_eq_none (by omega),Array.getElem?_replicate];split<;>rfl
  let nt:Slots:=⟨fn.ntmps,s.back,fun i=>(vs[i]?).getD undef,PinE (w0s s.ps) D,fun _ _ h hE=>h.mono hE,!noRF c⟩
  have hR:((fx'.calm c).loops=[]∧(none:Option Nat)=none)∨(nt.md=true∧(none:Option Nat)=none)∨noRF c=true:=by
   cases hn:noRF c with
   | true=>exact .inr (.inr rfl)
   | false=>exact .inr (.inl ⟨by show (!noRF c)=true;rw[hn];rfl,rfl⟩)
  have hT:(fx'.calm c).thaw=[]∨nt.md=false:=(k1p fx' c).imp id fun q=>by show (!noRF c)=false;rw[q];rfl
  have hstart:StRel cx W F O nt ⟨numbered 0 us,h'⟩ { tmps:=vs.toArray++Array.replicate (fn.ntmps-vs.toArray.size) undef,defers:=[] } W F E:=by
   refine ⟨hr,hF,fun s => ?_,Later.refl W F,fun _ _ _=>rfl,fun b hb => ?_,fun _ hb => .inl hb,?_,fun i _=>hget i,⟨fun _=>rfl,.nil⟩,hEp⟩
   ·rw[hget,q0w,if_pos (Nat.zero_le _),Nat.sub_zero];by_cases hlt:s<vs.length
    ·have hlt':s<us.length:=by omega
     rw[List.getElem?_eq_getElem hlt',List.getElem?_eq_getElem hlt];exact hus s _ _ (List.getElem?_eq_getElem hlt') (List.getElem?_eq_getElem hlt)
    ·rw[List.getElem?_eq_none (l:=us) (by omega)];exact trivial
   ·rcases hlive b hb with q | q
    ·exact (j0c _ q).elim
    ·exact .inl q
   ·simp;show vs.length+(fn.ntmps-vs.length)=fn.ntmps;omega
  have hcar:l0k (fx'.calm c).top nt:=fun E1 E2 h1 h2 d hd=>by
   have hd':d<(fx'.calm c).top:=by rw[hcalm,hfxt];exact Nat.lt_of_lt_of_le hd htop
   obtain ⟨k1,k2⟩:=h2 d hd';refine ⟨?_,k2⟩;rw[k1,PinE.of h1 hd]
  refine (callsIn_wide (n:=0)).1 (callsIn_of_wp_marks (F:=Rnd none) hfun hb trivial ?_ rfl);have fin:∀(z:El (tup (s.rs++s.back.filterMap (s.ps[·]?)))) st' a' W' F' E',b0p (a:=tup (s.rs++s.back.filterMap (s.ps[·]?))) (b:=cx.out f) z=some y→retK cx call fn s st'=some z→StRel cx W F O nt st' a' W' F' E' →
    LeavesInM (Rnd none) 0 cx.P fn a'.tmps (fun e W'=>∃v' F',e = .returned v'∧Move W F O W' F'∧Ret cx.P D W O s vs (cx.out f) y W' F' v') a'.defers .returning W':=by
   intro z st' a' W' F' E' h1 h2 h3;obtain ⟨ez,rfl⟩:=a0v h1;refine z0m a'.defers a' W' rfl h3 fun a2 W2 ht h4 => ?_
   obtain ⟨v,F2,k1,k2,ws,O',k3,k4,k5,k6⟩:=retK_rd hc tab hforms hback h4 rfl (fun i v hv=>by show (vs[i]?).getD undef=v;rw[hv];rfl) h4.env h2;rw[←ht];exact ⟨v,k1,v,F2,rfl,k2,ws,O',k3,k4,RdB.cast ez k5,k6⟩
  refine z0x (rd:=none) (W0:=W) (F0:=F) (O0:=O) (nt:=nt) hc tab hfn hin (.inr hcar) hm c hR hT _ _ _ _ y _ W F E _ hbelow hstart hk (fun e st' a' W' F' E' h1 h2 => ?_) (fun z st' a' W' F' E' h1 h2 h3=>fin z st' a' W' F' E' h1 h2 h3);cases e with
  | normal =>
   dsimp only at h1;cases hz:retK cx call fn s st' with
   | none=>rw[hz] at h1;cases h1
   | some z=>rw[hz] at h1;exact fin z st' a' W' F' E' h1 hz h2
  | ret =>
   dsimp only at h1;cases hz:retK cx call fn s st' with
   | none=>rw[hz] at h1;cases h1
   | some z=>rw[hz] at h1;exact fin z st' a' W' F' E' h1 hz h2
  | exit id=>cases h1
  | goto l=>cases h1
  | panic ch=>cases h1
  | outgrown=>cases h1
theorem inRes_rd (tab:e0d cx) (hr:HR cx.P W F E (fun _=>True) h) {t:List (Nat×V)} (ht:∀s,RdV cx.P W F E (getT t s) (a.tmps.getD s undef)):∀(rvs:List ResultVar) (l:List (Bool×List Cell)),x0n cx h t rvs=some l →
  ∃ws:List Value,l.length=ws.length∧(∀(j:Nat) p u,l[j]? = some p→ws[j]? = some u→RdV1 cx.P W F E p.1 p.2 u)∧(rvs.mapM (resF a.tmps)).run cx.P W = .ok ws W:=by
 intro rvs;induction rvs with
 | nil =>
  intro l hk;simp only[x0n,Option.some.injEq] at hk;subst hk;exact ⟨[],rfl,fun j p u h=>by simp at h,rfl⟩
 | cons rv rvs ih =>
  intro l hk;have two:∀ {p:Bool×List Cell} {l2:List (Bool×List Cell)} {w:Value} {ws:List Value},RdV1 cx.P W F E p.1 p.2 w→(∀(j:Nat) p u,l2[j]? = some p→ws[j]? = some u→RdV1 cx.P W F E p.1 p.2 u) →
    ∀(j:Nat) q u,(p::l2)[j]? = some q→(w::ws)[j]? = some u→RdV1 cx.P W F E q.1 q.2 u:=by
   intro p l2 w ws h1 h2 j q u hq hu;cases j with
   | zero=>simp at hq hu;subst hq;subst hu;exact h1
   | succ j=>exact h2 j q u (by simpa using hq) (by simpa using hu)
  cases rv with
  | tmp s =>
   simp only[x0n] at hk;split at hk
   case h_2=>cases hk
   rename_i ag cs1 hg;simp only[Option.map_eq_some_iff] at hk;obtain ⟨l2,h2,rfl⟩:=hk;have hv:=ht s;rw[hg] at hv;obtain ⟨ws,k1,k2,k3⟩:=ih l2 h2;refine ⟨a.tmps.getD s undef::ws,by simp[k1],two hv k2,?_⟩;rw[List.mapM_cons];simp[resF,k3]
  | cell s ct =>
   simp only[x0n] at hk;split at hk
   case h_2=>cases hk
   rename_i ac c hg hc;have hv:=x0z (ht s);rw[hg] at hv;rw[d1i] at hk;obtain ⟨cs1,h1,h2,b,o,vs,h3,h4,h5⟩:=x0k hr hk hv.single.1;simp only[Option.map_eq_some_iff] at h1;obtain ⟨l2,q2,rfl⟩:=h1;obtain ⟨ws,k1,k2,k3⟩:=ih l2 q2;obtain ⟨⟨ti,t1,t2,_⟩,t3,t4,t5,t6⟩:=k0k tab hc;have hl:vs.length=ti.size:=by rw[←h4.1,h2,t2]
   have hrun:=e0g (P:=cx.P) (W:=W) (b:=b) (o:=o) t1 t6 hl h5 (fun e=>by rw[hl,t2];exact t5 (t3.trans e));have hV:=h4.mkV (ag:=agg c) (fun e=>by rw[h2];exact t5 e);rw[←t3] at hrun;generalize (if agg c=true then Value.agg vs.toArray else vs.headD .nilFunc)=w at hrun hV;refine ⟨w::ws,by simp[k1],two hV k2,?_⟩;rw[List.mapM_cons];simp[resF,h3,asAddr,hrun,k3]
open Classical in
theorem j1q (hp:Fns cx) (tab:e0d cx) (hfn:FnOk cx call) (hin:InOk cx call) (hm:cx.P.follows .mixedOrders=true) {f:FuncId} {us:List V} {nm:Nat} {k:V→Heap→Option R} {r:R} (hy:inBody cx call R f us h nm k=some r):(∃s,cx.sig f=some s) ∧
  ∀(W:World) (F:Fz) (E:EnvM) (vs:List Value),GlobOk cx W F→(∀b,F b→b<W.heap.size)→HR cx.P W F E (fun _=>True) h→us.length=vs.length→(∀(i:Nat) p u,us[i]? = some p→vs[i]? = some u→RdV cx.P W F E p u) →
   Calls cx.P f vs.toArray W fun e W'=>∃v F' E' x h',e = .returned v∧k x h'=some r∧HR cx.P W' F' E' (fun _=>True) h'∧RdV cx.P W' F' E' x v∧Later W F W' F'∧EnvLe E E'∧(∀b,F' b→b<W'.heap.size) ∧
    (∀b,b<W.heap.size→¬a0p h E b→W'.heap[b]? = W.heap[b]?)∧(∀b,a0p h' E' b→a0p h E b∨W.heap.size≤b)∧(∀b,F' b→F b∨a0p h E b∨W.heap.size≤b):=by
 unfold inBody at hy;cases hfun:cx.P.funcs[f]? with
 | none=>rw[hfun] at hy;cases hy
 | some fn =>
  rw[hfun] at hy;dsimp only at hy;split at hy
  case h_2=>cases hy
  rename_i c hb;obtain ⟨hok,hy⟩:=a0l hy;simp only[Bool.and_eq_true] at hok;obtain ⟨_,hsig,hbelow,hps⟩:=hok;refine ⟨Option.isSome_iff_exists.1 hsig,?_⟩;intro W F E vs hg hF hr hlen hus;have hc:CallSound cx call W F:=FnOk.closed hp hfn hg;have hps:us.length≤fn.ntmps:=by simpa [Nat.ble_eq] using hps
  have hget:∀s,({ tmps:=vs.toArray++Array.replicate (fn.ntmps-vs.toArray.size) undef,defers:=[] }:Act).tmps.getD s undef=(vs[s]?).getD undef:=by
   intro s;simp only[Array.getD_eq_getD_getElem?,Array.getElem?_append,List.size_toArray,List.getElem?_toArray];by_cases hlt:s<vs.length
   ·rw[if_pos hlt]
   ·rw[if_neg hlt,List.getElem?_eq_none (by omega),Array.getElem?_replicate];split<;>rfl
  let nt:Slots:=⟨fn.ntmps,[],fun _=>undef,EnvLe E,fun _ _ h1 h2=>h1.trans h2,false⟩
  let O:List Nat:=(List.range W.heap.size).filter fun b=>decide (a0p h E b)
  have hO:∀b,b∈O↔a0p h E b:=fun b=>by
   simp only[O,List.mem_filter,List.mem_range,decide_eq_true_eq];exact ⟨fun h=>h.2,fun h=>⟨hr.lt b h,h⟩⟩
  have hstart:StRel cx W F O nt ⟨numbered 0 us,h⟩ { tmps:=vs.toArray++Array.replicate (fn.ntmps-vs.toArray.size) undef,defers:=[] } W F E:=by
   refine ⟨hr,hF,fun s => ?_,Later.refl W F,fun _ _ _=>rfl,fun b hb => .inl ((hO b).2 hb),fun _ hb => .inl hb,?_,(fun i hi=>by cases hi),⟨fun _=>rfl,.nil⟩,EnvLe.refl E⟩
   ·rw[hget,q0w,if_pos (Nat.zero_le _),Nat.sub_zero];by_cases hlt:s<vs.length
    ·have hlt':s<us.length:=by omega
     rw[List.getElem?_eq_getElem hlt',List.getElem?_eq_getElem hlt];exact hus s _ _ (List.getElem?_eq_getElem hlt') (List.getElem?_eq_getElem hlt)
    ·rw[List.getElem?_eq_none (l:=us) (by omega)];exact trivial
   ·simp;show vs.length+(fn.ntmps-vs.length)=fn.ntmps;omega
  refine calls_of_wp hfun hb ((wpIn_wide (n:=0)).1 ?_);have fin:∀st' a' W' F' E',((x0n cx st'.h st'.t fn.results.toList).bind fun l=>k (resV l) st'.h)=some r→StRel cx W F O nt st' a' W' F' E' →
    a'.defers=[]∧∃v,(results fn a'.tmps).run cx.P W' = .ok v W'∧∃v' F' E' x h',Ending.returned v = .returned v'∧k x h'=some r∧HR cx.P W' F' E' (fun _=>True) h'∧RdV cx.P W' F' E' x v'∧Later W F W' F'∧EnvLe E E'∧(∀b,F' b→b<W'.heap.size) ∧
     (∀b,b<W.heap.size→¬a0p h E b→W'.heap[b]? = W.heap[b]?)∧(∀b,a0p h' E' b→a0p h E b∨W.heap.size≤b)∧(∀b,F' b→F b∨a0p h E b∨W.heap.size≤b):=by
   intro st' a' W' F' E' h1 h2;cases hres:x0n cx st'.h st'.t fn.results.toList with
   | none=>rw[hres] at h1;cases h1
   | some l =>
    rw[hres] at h1;simp only[Option.bind_some] at h1;obtain ⟨ws,k1,k2,k3⟩:=inRes_rd tab h2.hr h2.t _ _ hres;exact ⟨h2.defers.1 rfl,q0s ws,s0l k3,_,F',E',_,_,rfl,h1,h2.hr,i1e k1 k2,h2.later,h2.env,h2.hF,fun b hb hn=>h2.frame b hb (fun hm=>hn ((hO b).1 hm)),
     fun b hb=>(h2.own b hb).imp (hO b).1 (fun h=>h),fun b hb=>(h2.fz b hb).imp (fun h=>h) (fun h=>h.imp (hO b).1 fun h=>h)⟩
  refine z0x (rd:=none) (W0:=W) (F0:=F) (O0:=O) (nt:=nt) hc tab hfn hin (.inl rfl) hm c (.inl ⟨rfl,rfl⟩) (.inl rfl) _ _ _ _ r _ W F E _ hbelow hstart hy (fun e st' a' W' F' E' h1 h2 => ?_) (fun z=>nomatch z);cases e with
  | normal=>exact fin st' a' W' F' E' h1 h2
  | ret=>exact fin st' a' W' F' E' h1 h2
  | exit id=>cases h1
  | goto l=>cases h1
  | panic ch=>cases h1
  | outgrown=>cases h1
def e1f (cx:Cx):Prop :=
 ∀f H,cx.hand f=some H→∀s,cx.sig f=some s→∀(x:El (cx.arg f)) (y:El (cx.out f)),handF cx H f x=some y→∀D W F O vs,GlobOk cx W F→(∀b,F b→b<W.heap.size)→b0s s.ps vs→RdB cx.P D (cx.arg f) x W F O (cat vs) →
  O.Nodup→(∀b∈O,¬F b)→Calls cx.P f vs.toArray W fun e W'=>∃v F',e = .returned v∧Move W F O W' F'∧Ret cx.P D W O s vs (cx.out f) y W' F' v
theorem evF_both (tab:e0d cx) (hp:Fns cx) (hm:cx.P.follows .mixedOrders=true) (hh:e1f cx):∀n,FnOk cx (evF cx n)∧InOk cx (evF cx n):=by
 intro n;induction n with
 | zero=>exact ⟨fun f s _ x y hy=>(by cases hy),fun R f us h nm k r hy=>(by cases hy)⟩
 | succ n ih =>
  refine ⟨?_,fun R f us h nm k r hy=>j1q hp tab ih.1 ih.2 hm hy⟩;intro f s hs x y hy;simp only[evF] at hy;cases hf:cx.hand f with
  | none=>rw[hf] at hy;exact FnOk.body (iq:=fun _ _ _ _ _ _=>none) hp tab ih.1 ih.2 hm f s hs x y hy
  | some H=>rw[hf] at hy;exact hh f H hf s hs x y hy
theorem evF_ok (tab:e0d cx) (hp:Fns cx) (hm:cx.P.follows .mixedOrders=true) (hh:e1f cx) (n:Nat):FnOk cx (evF cx n):=(evF_both tab hp hm hh n).1
end
end Go.Flat
end
section
namespace Go.Flat
open Go.RowKit (Below)
open Go.ChangeShapes Go.WideShapes
def Wf:(t:Ty)→El t→Prop
 | .pair a b,x=>Wf a x.1∧Wf b x.2
 | .wrap e,x=>Wf e x
 | .int k,x=>k.min≤x∧x≤k.max
 | .str,x=>x.length≤maxLen
 | .slice e,x=>x.length≤maxLen∧∀y∈x,Wf e y
 | _,_=>True
def f0w (P:Program) (self:TypeId→Ty→Bool):List Field→Ty→Nat→Bool
 | [],.unit,_=>true
 | [f],e,off=>Nat.beq f.offset off&&(l0p P f.type e&&self f.type e)
 | f::g::r,.pair a b,off=>Nat.beq f.offset off&&(l0p P f.type a&&(self f.type a&&f0w P self (g::r) b (off+width a)))
 | _,_,_=>false
def readB (P:Program):Nat→TypeId→Ty→Bool
 | 0,_,_=>false
 | d+1,t,c =>
  match P.underlying t,c with
  | some .bool,.bool=>true
  | some (.int k),.int k'=>decide (k=k')
  | some .string,.str=>true
  | some (.slice el),.slice e=>l0p P el e&&(readB P d el e && !Nat.beq (width e) 0)
  | some (.struct fs),.wrap e=>l0p P t (.wrap e)&&f0w P (readB P d) fs.toList e 0
  | some (.array n el),.wrap e=>l0p P t (.wrap e)&&f0i P (readB P d) el n e
  | _,_=>false
section
variable {H:Type} {enc:TypeId×Value→H} {P:Program} {w:World} {held:Bool} {F:Fz}
theorem h0y {t:TypeId} {e:Ty} (h:l0p P t e=true):P.cellsOf t=width e:=by
 unfold l0p at h;split at h
 case h_2=>cases h
 rename_i ti hti;simp only[Bool.and_eq_true] at h;rw[show P.cellsOf t=ti.size by simp[Program.cellsOf,hti]];exact Nat.eq_of_beq_eq_true h.1
def l1k (enc:TypeId×Value→H) (P:Program) (w:World) (held:Bool) (F:Fz) (self:TypeId→Ty→Bool):Prop :=
 ∀t c,self t c=true→∀n (cs:List Value) (y:DataW H×List MemPlace),DataW.trod enc P w 0 (fun _=>true) held n t cs=some y→∃x:El c,cs.length=width c∧Rd P c x w F (fun j=>cs[j]?)∧Wf c x
theorem mapM_get {α β:Type} {f:α→Option β}:∀ {l:List α} {r:List β},l.mapM f=some r→∀(i:Nat) (x:α),l[i]? = some x→f x=r[i]? := by
 intro l;induction l with
 | nil=>intro r _ i x h;simp at h
 | cons a l ih =>
  intro r h i x hx;rw[List.mapM_cons] at h;simp only[bind,Option.bind_eq_some_iff,pure,Option.some.injEq] at h;obtain ⟨b,h1,r',h2,rfl⟩:=h;cases i with
  | zero=>simp at hx;subst hx;simpa using h1
  | succ i=>simpa using ih h2 i x (by simpa using hx)
theorem i1z {α β:Type} {f:α→Option β}:∀ {l:List α} {r:List β},l.mapM f=some r→r.length=l.length:=by
 intro l;induction l with
 | nil=>intro r h;simp at h;subst h;rfl
 | cons a l ih =>
  intro r h;rw[List.mapM_cons] at h;simp only[bind,Option.bind_eq_some_iff,pure,Option.some.injEq] at h;obtain ⟨b,h1,r',h2,rfl⟩:=h;simp[ih h2]
theorem a1f {a:Addr} {n:Nat} {cs:List Value} (h:w.cells? 0 a n=some cs):cs.length=n∧∀j,j<n→cs[j]? = w.cell? (a.add j):=by
 unfold World.cells? at h;rw[if_pos (Nat.zero_le _)] at h;have hl:cs.length=n:=by have:=i1z h;simpa using this
 refine ⟨hl,fun j hj => ?_⟩;have hj':(List.range n)[j]? = some j:=List.getElem?_range hj;exact (mapM_get h j j hj').symm
theorem fields_read {self:TypeId→Ty→Bool} (ih:l1k enc P w held F self) {n:Nat}:∀(fs:List Field) (e:Ty) (off:Nat) (cs:List Value),
  f0w P self fs e off=true→off+width e≤cs.length→(∀f∈fs,∃y,DataW.trod enc P w 0 (fun _=>true) held n f.type ((cs.drop f.offset).take (P.cellsOf f.type))=some y) →
   ∃x:El e,Rd P e x w F (fun j=>cs[off+j]?)∧Wf e x:=by
 intro fs;induction fs with
 | nil =>
  intro e off cs h _ _;cases e<;>(try (cases h));exact ⟨(),trivial,trivial⟩
 | cons f r ihf =>
  intro e off cs h hlen hf;have step:∀(c:Ty),Nat.beq f.offset off=true→l0p P f.type c=true→self f.type c=true→off+width c≤cs.length→∃x:El c,Rd P c x w F (fun j=>cs[off+j]?)∧Wf c x:=by
   intro c k1 k2 k3 k4;have k1:=Nat.eq_of_beq_eq_true k1;obtain ⟨y,hy⟩:=hf f (by simp);rw[k1,h0y k2] at hy;obtain ⟨x,_,h2,h3⟩:=ih _ _ k3 _ _ _ hy;refine ⟨x,Rd.congr c (fun j hj => ?_) h2,h3⟩;rw[List.getElem?_take,if_pos hj,List.getElem?_drop]
  cases r with
  | nil =>
   simp only[f0w,Bool.and_eq_true] at h;exact step e h.1 h.2.1 h.2.2 hlen
  | cons g r =>
   cases e with
   | pair a b =>
    simp only[f0w,Bool.and_eq_true] at h;simp only[width] at hlen;obtain ⟨x,x1,x2⟩:=step a h.1 h.2.1 h.2.2.1 (by omega);obtain ⟨y,y1,y2⟩:=ihf b (off+width a) cs h.2.2.2 (by omega) (fun f' hf'=>hf f' (by simp[hf']));exact ⟨(x,y),⟨x1,Rd.congr b (fun j _=>by rw[Nat.add_assoc]) y1⟩,x2,y2⟩
   | _=>simp[f0w] at h
theorem f1p {self:TypeId→Ty→Bool} (ih:l1k enc P w held F self) {el:TypeId} {m:Nat}:∀(n:Nat) (e:Ty) (i:Nat) (cs:List Value),
  f0i P self el n e=true→i*P.cellsOf el+width e≤cs.length→(∀j,i≤j→j<i+n→∃y,DataW.trod enc P w 0 (fun _=>true) held m el ((cs.drop (j*P.cellsOf el)).take (P.cellsOf el))=some y) →
   ∃x:El e,Rd P e x w F (fun j=>cs[i*P.cellsOf el+j]?)∧Wf e x:=by
 intro n;induction n with
 | zero =>
  intro e i cs h _ _;cases e<;>(try (cases h));exact ⟨(),trivial,trivial⟩
 | succ n ihn =>
  intro e i cs h hlen hf;have step:∀(c:Ty),l0p P el c=true→self el c=true→∃x:El c,Rd P c x w F (fun j=>cs[i*P.cellsOf el+j]?)∧Wf c x:=by
   intro c k2 k3;obtain ⟨y,hy⟩:=hf i (Nat.le_refl _) (by omega);obtain ⟨x,_,h2,h3⟩:=ih _ _ k3 _ _ _ hy;refine ⟨x,Rd.congr c (fun j hj => ?_) h2,h3⟩;rw[List.getElem?_take,if_pos (by rw[h0y k2];exact hj),List.getElem?_drop]
  cases n with
  | zero =>
   simp only[f0i,Bool.and_eq_true] at h;exact step e h.1 h.2
  | succ n =>
   cases e with
   | pair a b =>
    simp only[f0i,Bool.and_eq_true] at h;have hc:=h0y h.1;simp only[width] at hlen;obtain ⟨x,x1,x2⟩:=step a h.1 h.2.1;have e1:(i+1)*P.cellsOf el=i*P.cellsOf el+width a:=by rw[Nat.succ_mul,hc]
    obtain ⟨y,y1,y2⟩:=ihn b (i+1) cs h.2.2 (by omega) (fun j h1 h2=>hf j (by omega) (by omega));refine ⟨(x,y),⟨x1,Rd.congr b (fun j _ => ?_) y1⟩,x2,y2⟩;rw[e1,Nat.add_assoc]
   | _=>simp[f0i] at h
theorem read_ok:∀(d:Nat),l1k enc P w held (fun b=>b<w.heap.size) (readB P d):=by
 intro d;induction d with
 | zero=>intro t c h;cases h
 | succ d ih =>
  intro t c h n cs y hy;unfold readB at h;split at h
  ·rename_i hu;obtain ⟨b,rfl,_⟩:=DataW.trod_bool hu hy;exact ⟨b,rfl,rfl,trivial⟩
  ·rename_i k k' hu;obtain ⟨m,rfl,_,hw⟩:=DataW.trod_int hu hy;have:k=k':=by simpa using h
   subst this;simp only[Lit.wf,Bool.and_eq_true,decide_eq_true_eq] at hw;exact ⟨m,rfl,rfl,hw⟩
  ·rename_i hu;obtain ⟨s,rfl,_,hs⟩:=DataW.trod_string hu hy;refine ⟨s.data.toList,rfl,?_,?_⟩
   ·show some (Value.string s)=some (.string ⟨s.data.toList.toArray⟩);rw[Array.toArray_toList]
   show s.data.toList.length≤maxLen;have:s.data.toList.length=s.size:=rfl;rw[this];exact hs
  ·rename_i el e hu;simp only[Bool.and_eq_true,Bool.not_eq_true'] at h;obtain ⟨h1,h2,h3⟩:=h;have hce:=h0y h1;have hpos:0<width e:=by
    rcases Nat.eq_zero_or_pos (width e) with q | q
    ·rw[q] at h3;cases h3
    ·exact q
   rcases DataW.trod_slice hu hy with ⟨rfl,_⟩ | ⟨a,len,cap,elems,rest,m,rfl,rfl,_,_,hlc,hcm,hel,hget,hsp,_⟩
   ·exact ⟨[],rfl,.inl ⟨rfl,_,rfl⟩,Nat.zero_le _,by simp⟩
   ·obtain ⟨hr1,hr2⟩:=hsp rfl;have each:∀i,i<cap→∃cs:List Value,w.cells? 0 (a.add (i*P.cellsOf el)) (P.cellsOf el)=some cs∧∃y,DataW.trod enc P w 0 (fun _=>true) held m el cs=some y:=by
     intro i hi;have hs:∃y,(w.cells? 0 (a.add (i*P.cellsOf el)) (P.cellsOf el)).bind (DataW.trod enc P w 0 (fun _=>true) held m el)=some y:=by
      by_cases hlt:i<len
      ·rw[hget i hlt,List.getElem?_eq_getElem (by omega)];exact ⟨_,rfl⟩
      ·have:=hr2 (i-len) (by omega);rw[show len+(i-len)=i by omega] at this;rw[this,List.getElem?_eq_getElem (by omega)];exact ⟨_,rfl⟩
     obtain ⟨y,hy⟩:=hs;rw[Option.bind_eq_some_iff] at hy;obtain ⟨cs,k1,k2⟩:=hy;exact ⟨cs,k1,y,k2⟩
    have spot:0<cap→a.spot=none∧a.block<w.heap.size:=by
     intro hc;obtain ⟨cs,k1,_⟩:=each 0 hc;obtain ⟨l1,l2⟩:=a1f k1;have:=l2 0 (by omega);rw[List.getElem?_eq_getElem (by omega)] at this;simp only[Nat.zero_mul,Addr.add,if_true] at this;have hs:=this.symm;unfold World.cell? at hs;split at hs
     ·rename_i c t fr hb;split at hs
      ·cases hs
      ·rename_i hspot;refine ⟨by cases hsp:a.spot with | none=>rfl | some z=>rw[hsp] at hspot;exact absurd rfl hspot,b0k? hb⟩
     ·cases hs
    have elem:∀i,i<len→∃x:El e,Rd P e x w (fun b=>b<w.heap.size) (mem w a.block (a.off+i*width e))∧Wf e x:=by
     intro i hi;obtain ⟨cs,k1,y,k2⟩:=each i (by omega);obtain ⟨l1,l2⟩:=a1f k1;obtain ⟨x,x1,x2,x3⟩:=ih _ _ h2 _ _ _ k2;refine ⟨x,Rd.congr e (fun j hj => ?_) x2,x3⟩;rw[l2 j (by omega)];obtain ⟨hs,_⟩:=spot (by omega);have ha:a=⟨a.block,a.off,none⟩:=by cases a;simp at hs;subst hs;rfl
     rw[ha,addr_add,addr_add,hce];rfl
    rcases Nat.eq_zero_or_pos cap with hc0 | hc0
    ·subst hc0;have:len=0:=by omega
     subst this;exact ⟨[],rfl,.inl ⟨rfl,_,rfl⟩,Nat.zero_le _,by simp⟩
    ·obtain ⟨hs,hb⟩:=spot hc0;have ha:a=⟨a.block,a.off,none⟩:=by cases a;simp at hs;subst hs;rfl
     have all:∀k,k≤len→∃xs:List (El e),xs.length=k∧(∀i (h:i<xs.length),Rd P e xs[i] w (fun b=>b<w.heap.size) (mem w a.block (a.off+i*width e)))∧∀y∈xs,Wf e y:=by
      intro k;induction k with
      | zero=>intro _;exact ⟨[],rfl,fun i hi=>by simp at hi,by simp⟩
      | succ k ihk =>
       intro hk;obtain ⟨xs,l1,l2,l3⟩:=ihk (by omega);obtain ⟨x,x1,x2⟩:=elem k (by omega);refine ⟨xs++[x],by simp[l1],fun i hi => ?_,fun y hy => ?_⟩
       ·simp at hi;by_cases hlt:i<xs.length
        ·rw[List.getElem_append_left hlt];exact l2 i hlt
        ·have:i=k:=by omega
         subst this;rw[List.getElem_append_right (by omega)];simp[l1,x1]
       ·rcases List.mem_append.1 hy with hy | hy
        ·exact l3 y hy
        ·simp at hy;subst hy;exact x2
     obtain ⟨xs,l1,l2,l3⟩:=all len (Nat.le_refl _);refine ⟨xs,rfl,.inr ⟨a.block,a.off,cap,?_,hb,by omega,l2⟩,by omega,l3⟩;show some (Value.slice (some a) len cap)=some (Value.slice (some ⟨a.block,a.off,none⟩) xs.length cap);rw[l1,←ha]
  ·rename_i fs e hu;simp only[Bool.and_eq_true] at h;obtain ⟨xs,m,rfl,_,hl,hxs,hget⟩:=DataW.trod_struct hu hy;have hcl:cs.length=width e:=by rw[hl,h0y h.1];rfl
   obtain ⟨x,x1,x2⟩:=fields_read (F:=fun b=>b<w.heap.size) ih (n:=m) fs.toList e 0 cs h.2 (by omega) (fun f hf=>by
    obtain ⟨i,hi⟩:=List.getElem?_of_mem hf;have hi':fs[i]? = some f:=by simpa using hi
    have:=hget i f hi';have hlt:i<xs.length:=by
     rw[hxs];rcases Nat.lt_or_ge i fs.size with q | q
     ·exact q
     ·rw[Array.getElem?_eq_none q] at hi';cases hi'
    rw[List.getElem?_eq_getElem hlt] at this
    exact ⟨_,this⟩)
   exact ⟨x,hcl,Rd.congr e (fun j _=>by rw[Nat.zero_add]) x1,x2⟩
  ·rename_i m el e hu;simp only[Bool.and_eq_true] at h;obtain ⟨xs,q,rfl,_,hl,hxs,hget⟩:=DataW.trod_array hu hy;have hcl:cs.length=width e:=by rw[hl,h0y h.1];rfl
   obtain ⟨x,x1,x2⟩:=f1p (F:=fun b=>b<w.heap.size) ih (m:=q) m e 0 cs h.2 (by omega) (fun j _ hj=>by
    have:=hget j (by omega);rw[List.getElem?_eq_getElem (by omega)] at this
    exact ⟨_,this⟩)
   exact ⟨x,hcl,Rd.congr e (fun j _=>by rw[Nat.zero_mul,Nat.zero_add]) x1,x2⟩
  ·cases h
theorem open_arg {t:TypeId} {c:Ty} {d:Nat} {base:Nat} {v:Value} {dd:DataW H} {p:List MemPlace} (hB:readB P d t c=true) (ha:aggB P t=agg c) (hok:Value.okWide P w .any base t v)
  (h:DataW.Trod enc P w 0 (fun _=>true) held t v dd p):∃x:El c,formed c v∧Rd P c x w (fun b=>b<w.heap.size) (one v)∧Wf c x:=by
 obtain ⟨n,hn⟩:=h;obtain ⟨x,x1,x2,x3⟩:=read_ok d t c hB n _ _ hn;refine ⟨x,⟨fun e => ?_,fun e => ?_,by rw[←x1];simp⟩,Rd.congr c (fun j _=>by simp[one]) x2,x3⟩
 ·rw[e] at ha;unfold aggB at ha;unfold Value.okWide at hok;split at ha
  ·rename_i hu;rw[hu] at hok;obtain ⟨cs,h1,_⟩:=hok;exact ⟨cs,h1⟩
  ·rename_i hu;rw[hu] at hok;obtain ⟨cs,h1,_⟩:=hok;exact ⟨cs,h1⟩
  ·cases ha
 ·rw[e] at ha;cases v with
  | agg cs =>
   exfalso;unfold Value.okWide at hok;unfold aggB at ha;cases hu:P.underlying t with
   | none=>rw[hu] at hok;simp[Cell.okWide,hu,Cell.ok] at hok
   | some u =>
    rw[hu] at hok ha;cases u<;>simp_all [Cell.okWide,Cell.ok]
  | tuple cs =>
   exfalso;unfold Value.okWide at hok;unfold aggB at ha;cases hu:P.underlying t with
   | none=>rw[hu] at hok;simp[Cell.okWide,hu,Cell.ok] at hok
   | some u =>
    rw[hu] at hok ha;cases u<;>simp_all [Cell.okWide,Cell.ok]
  | _=>rfl
end
theorem GlobOk.none {cx:Cx} {W:World} {F:Fz} (h:∀g,cx.glob g=none) (h2:∀g,cx.gsh g=none:=by intro g;rfl):GlobOk cx W F:=⟨fun g t x e=>(by rw[h g] at e;cases e),fun g k e=>(by rw[h2 g] at e;cases e)⟩
theorem j1h {cx:Cx} (tab:e0d cx) (hp:Fns cx) (hm:cx.P.follows .mixedOrders=true) (hh:e1f cx) {n K:Nat} {s:Sig} (hs:cx.sig K=some s) (hrs:s.rs=[.bool]) (hback:s.back=[])
  {x:El (cx.arg K)} {y:El (cx.out K)} (hx:evF cx n K x=some y) (ho:cx.out K = .bool) (hy:(ho ▸ y:El .bool)=true) {W:World} {vs:List Value} (hg:GlobOk cx W (fun b=>b<W.heap.size)) (hf:b0s s.ps vs) (hrd:RdB cx.P D0 (cx.arg K) x W (fun b=>b<W.heap.size) [] (cat vs)) :
  Calls cx.P K vs.toArray W fun e W'=>e = .returned (.bool true)∧Below W.heap.size W W':=by
 refine (evF_ok tab hp hm hh n K s hs x y hx D0 W (fun b=>b<W.heap.size) [] vs hg (fun _ h=>h) hf hrd List.nodup_nil (by simp)).mono fun e W' h => ?_
 obtain ⟨v,F',rfl,hmove,ws,O',h1,rfl,h2,_,_,_⟩:=h;refine ⟨?_,hmove.later.os,hmove.later.tape,hmove.later.output,hmove.later.size,fun b hb=>hmove.frame b hb (by simp)⟩;rw[hrs] at h1
 match ws,h1 with
 | [w],h1 =>
  have h3:=RdB.cast ho h2;rw[hy] at h3;obtain ⟨_,h4⟩:=h3;rw[hback] at h4;have h5:cat ([w]++([]:List Nat).filterMap (vs[·]?)) 0=some (.bool true):=h4;have hc:=oneCell_cells (h1.1.2.1 rfl);rw[show ([w]++([]:List Nat).filterMap (vs[·]?))=[w] from rfl,e0l (t := .bool) (by rw[hc];rfl) 0 (by simp[width]),one,hc] at h5;simp at h5;subst h5;rfl
def y0t (P : Program) (f : FuncId) : Bool := match P.funcs[f]? with | some fn => !(fn.name == "runtime.NumGoroutine") && !fn.body.isNone | none => false
theorem i1h {P:Program} {f:FuncId} (h:y0t P f=true):Plain P f:=by
 unfold y0t at h;split at h
 ·rename_i fn hf;simp only[Bool.and_eq_true,Bool.not_eq_true'] at h;exact ⟨fn,hf,h.1,h.2⟩
 ·cases h
theorem tab_ok {cx:Cx} {T:BT TI} (hT:∀t,cx.info t=T.get t) (h:T.allB (fun n i=>infoB cx.P n i) id=true):e0d cx:=fun t i hi=>infoB_ok (BT.get_all T id h t i (by rw[←hT];exact hi))
theorem plain_ok {cx:Cx} {T:BT Sig} (hT:∀f,cx.sig f=T.get f) (h:T.allB (fun n _=>y0t cx.P n) id=true):∀f s,cx.sig f=some s→Plain cx.P f :=
 fun f s hs=>i1h (BT.get_all (p:=fun n _=>y0t cx.P n) T id h f s (by rw[←hT];exact hs))
theorem ext_ok {cx:Cx} {l:List (Nat×Nat)} (hl:∀f,cx.ext f=z0u l f) (h:∀x∈l,ExtOk cx.P x.1 x.2):∀f k,cx.ext f=some k→ExtOk cx.P f k:=by
 intro f k hk;rw[hl] at hk;clear hl;induction l with
 | nil=>cases hk
 | cons x r ih =>
  obtain ⟨m,q⟩:=x;simp only[z0u] at hk;cases hb:Nat.beq m f with
  | true =>
   rw[hb] at hk;simp only[cond_true,Option.some.injEq] at hk;have:=Nat.eq_of_beq_eq_true hb;subst this;subst hk;exact h (m,q) (by simp)
  | false =>
   rw[hb] at hk;exact ih (fun x hx=>h x (by simp[hx])) hk
end Go.Flat
end
section
namespace Go.Flat
theorem tif_dec {α:Type} (p:Prop) [Decidable p] (x y:α):tif (decide p) x y=if p then x else y:=by
 by_cases h:p<;>simp[h]
theorem tif_not {α:Type} (b:Bool) (x y:α):tif (!b) x y=tif b y x:=by cases b<;>rfl
theorem h1g {α:Type} (a b:Bool) (x y:α):tif (a&&b) x y=tif a (tif b x y) y:=by cases a<;>rfl
theorem w64 {x:Int} (h : -9223372036854775808≤x) (h':x≤9223372036854775807):IntKind.wrap .i64 x=x:=IntWalk.i64_in x ⟨h,h'⟩
theorem wu64 {x:Int} (h:0≤x) (h':x≤18446744073709551615):IntKind.wrap .u64 x=x:=IntWalk.u64_in x ⟨h,h'⟩
theorem a1n (x:Int):IntKind.wrap .u8 x=x % 256:=IntKind.wrap_u8 x
theorem h1o {a b:Int} (h:0≤a):Int.tdiv a b=a / b:=Int.tdiv_eq_ediv_of_nonneg h
theorem w0r {a b:Int} (h:0≤a):Int.tmod a b=a % b:=Int.tmod_eq_emod_of_nonneg h
def beI:Nat→Int→List Int
 | 0,_=>[]
 | k+1,n=>(n / 256^k) % 256::beI k n
theorem d0j (n:Int):∀k,(beI k n).length=k:=by
 intro k;induction k with
 | zero=>rfl
 | succ k ih=>simp[beI,ih]
theorem l1a (n:Int):∀k,∀x∈beI k n,0≤x∧x≤255:=by
 intro k;induction k with
 | zero=>intro x hx;cases hx
 | succ k ih =>
  intro x hx;rcases List.mem_cons.1 hx with rfl | hx
  ·omega
  ·exact ih x hx
def valI (l:List Int):Int:=l.foldl (fun v b=>v*256+b) 0
def f0d (l:List UInt8):List Int:=l.map fun c=>(c.toNat:Int)
theorem m0o (l:List UInt8):∀x∈f0d l,0≤x∧x≤255:=by
 intro x hx;simp only[f0d,List.mem_map] at hx;obtain ⟨c,_,rfl⟩:=hx;have:=c.toNat_lt;omega
def toB (l:List Int):List UInt8:=l.map fun y=>UInt8.ofNat (Int.toNat y)
theorem e1j (l:List UInt8):toB (f0d l)=l:=by
 simp only[toB,f0d,List.map_map]
 conv=>rhs;rw[←List.map_id l]
 apply List.map_congr_left;intro c _;simp
theorem g1i {l:List Int} (h:∀x∈l,0≤x∧x≤255):f0d (toB l)=l:=by
 simp only[toB,f0d,List.map_map]
 conv=>rhs;rw[←List.map_id l]
 apply List.map_congr_left;intro x hx;obtain ⟨h1,h2⟩:=h x hx;have e:(UInt8.ofNat x.toNat).toNat=x.toNat:=by
  rw[UInt8.toNat_ofNat'];omega
 simp only[Function.comp_apply,e,id];omega
theorem p0o (a b:List Int):toB (a++b)=toB a++toB b:=by simp[toB]
theorem f0s (a:List Int):(toB a).length=a.length:=by simp[toB]
theorem l0a (a:List UInt8):(f0d a).length=a.length:=by simp[f0d]
theorem val_fold (l:List Int):∀v,l.foldl (fun v b=>v*256+b) v=v*256^l.length+valI l:=by
 induction l with
 | nil=>intro v;simp[valI]
 | cons x l ih =>
  intro v;have h0:valI (x::l)=x*256^l.length+valI l:=by
   show l.foldl _ (0*256+x)=_;rw[ih];simp
  rw[List.foldl_cons,ih,h0,List.length_cons,Int.pow_succ];rw[Int.add_mul,Int.mul_assoc,Int.mul_comm 256 (256^l.length),Int.add_assoc]
theorem w0p (x:Int) (l:List Int):valI (x::l)=x*256^l.length+valI l:=by
 show l.foldl _ (0*256+x)=_;rw[val_fold];simp
theorem s0b {l:List Int} (h:∀x∈l,0≤x∧x≤255):0≤valI l∧valI l<256^l.length:=by
 induction l with
 | nil=>simp[valI]
 | cons x l ih =>
  have h1:=h x (by simp);have h2:=ih fun y hy=>h y (by simp[hy])
  rw[w0p,List.length_cons,Int.pow_succ];have hp:(0:Int)<256^l.length:=Int.pow_pos (by decide);constructor
  ·have:=Int.mul_nonneg h1.1 (Int.le_of_lt hp);omega
  ·have:x*256^l.length≤255*256^l.length:=Int.mul_le_mul_of_nonneg_right h1.2 (Int.le_of_lt hp);omega
theorem be_val {l:List Int} (h:∀x∈l,0≤x∧x≤255):∀(hi:Int),beI l.length (hi*256^l.length+valI l)=l:=by
 induction l with
 | nil=>intro hi;rfl
 | cons x l ih =>
  intro hi;have h1:=h x (by simp);have h2:=s0b (l:=l) fun y hy=>h y (List.mem_cons_of_mem _ hy)
  have hp:(0:Int)<256^l.length:=Int.pow_pos (by decide);have e:hi*256^(x::l).length+valI (x::l)=(hi*256+x)*256^l.length+valI l:=by
   rw[w0p,List.length_cons,Int.pow_succ,Int.add_mul,Int.mul_assoc,Int.mul_comm 256 (256^l.length),Int.add_assoc]
  rw[e];simp only[List.length_cons,beI];congr 1
  ·have:((hi*256+x)*256^l.length+valI l) / 256^l.length=hi*256+x:=by
    rw[Int.add_comm,Int.add_mul_ediv_right _ _ (by omega),Int.ediv_eq_zero_of_lt h2.1 h2.2];omega
   rw[this];omega
  ·exact ih (fun y hy=>h y (by simp[hy])) _
theorem k1z {l:List Int} (h:∀x∈l,0≤x∧x≤255) {k:Nat} (hk:l.length=k):beI k (valI l)=l:=by
 subst hk;have:=be_val h 0
 simpa using this
theorem val_be (n:Int):∀k,valI (beI k n)=n % 256^k:=by
 intro k;induction k with
 | zero=>simp[beI,valI]
 | succ k ih =>
  simp only[beI];rw[w0p,d0j,ih,Int.pow_succ];have hp:(0:Int)<256^k:=Int.pow_pos (by decide);generalize (256:Int)^k=p at *
  have h1:=Int.mul_ediv_add_emod n p;have h2:=Int.mul_ediv_add_emod (n / p) 256;have h3:=Int.emod_nonneg n (show p≠0 by omega);have h4:=Int.emod_lt_of_pos n hp;have h5:=Int.emod_nonneg (n / p) (show (256:Int)≠0 by decide);have h6:=Int.emod_lt_of_pos (n / p) (show (0:Int)<256 by decide);have e:n=(p*256)*((n / p) / 256)+(n / p % 256*p+n % p):=by
   have:p*(n / p)=p*(256*(n / p / 256)+n / p % 256):=by rw[h2]
   rw[Int.mul_add] at this;rw[Int.mul_assoc,Int.mul_comm (n / p % 256) p];omega
  have hr:0≤n / p % 256*p+n % p∧n / p % 256*p+n % p<p*256:=by
   have a1:0≤n / p % 256*p:=Int.mul_nonneg h5 (Int.le_of_lt hp);have a2:n / p % 256*p≤255*p:=Int.mul_le_mul_of_nonneg_right (by omega) (Int.le_of_lt hp);omega
  generalize hq:n / p % 256*p+n % p=q at *
  rw[e,Int.add_comm,Int.add_mul_emod_self_left,Int.emod_eq_of_lt hr.1 hr.2]
end Go.Flat
end
section
namespace Go.Flat
open Go.RowKit (Below)
open Go.ChangeShapes Go.WideShapes
section
variable {H:Type} {enc:TypeId×Value→H} {P:Program} {W W':World}
def o0m (P:Program) (ts:List TypeId):Bool:=ts.all fun t=>P.readableRec t&&decide (t<P.types.size)
theorem h1s (hl:laidOutB P=true) (hb:Below W.heap.size W W') {sp:Nat→Bool}:∀ {ts:List TypeId} {vs:List Value} {ds:List (DataW H)} {ps:List MemPlace},o0m P ts=true→DataW.TrodAll enc P W 0 (fun _=>true) true ts vs ds ps →
  (∀p∈ps,sp p.block=true)→DataW.TrodAll enc P W' 0 sp true ts vs ds ps:=by
 intro ts;induction ts with
 | nil=>intro vs ds ps _ h _;obtain ⟨rfl,rfl,rfl⟩:=trodAll_nil h;exact rfl
 | cons t ts ih =>
  intro vs ds ps hr h hsp;have hlt:=h.lt;obtain ⟨v,vs,d,ds,p,q,rfl,rfl,rfl,h1,h2⟩:=trodAll_cons h;simp only[o0m,List.all_cons,Bool.and_eq_true,decide_eq_true_eq] at hr;refine ⟨p,q,?_,ih hr.2 h2 (fun x hx=>hsp x (by simp[hx])),rfl⟩;exact WideElems.Trod_stays hl hr.1.1 hr.1.2 h1 (fun x hx=>hb.same (hlt x (by simp[hx]))) (fun x hx=>hsp x (by simp[hx]))
theorem post_law {f:Func} {s:ChangeSpec} {args:Array Value} {ds:List (DataW H)} {ps:List MemPlace} {tb:TypeId} (hl:laidOutB P=true) (hr:o0m P f.params.toList=true) (hv:s.vars=[])
  (hs:s.fn H ds = { results:=[.lit (.bool true)],args:=ds }) (ht:f.resultTypes = #[tb]) (hu:P.underlying tb=some .bool)
  (h:DataW.TrodAll enc P W 0 (fun _=>true) true f.params.toList args.toList ds ps) (hz:W.noneFrozen ps) (hb:Below W.heap.size W W') :
  s.post enc P f false true false false W args (.bool true) W':=by
 have hlt:=h.lt;have hW:DataW.Whole enc P f.params.toList s.vars false W args.toList ds [] (ps++[]):=⟨ps,[],h,by rw[hv];rfl,rfl,by rw[List.append_nil];exact hz,fun e=>by cases e⟩;have hall:∀sp:Nat→Bool,(∀p∈ps++[],sp p.block=true)→DataW.TrodAll enc P W' 0 sp true f.params.toList args.toList (s.fn H (ds++[])).args ps:=by
  intro sp hsp;rw[List.append_nil,hs];exact h1s hl hb hr h fun p hp=>hsp p (by simp[hp])
 have hres:∀(b:Nat) (sp:Nat→Bool) (hd:Bool),DataW.TrodAll enc P W' b sp hd f.resultTypes.toList ((Value.bool true).resultList f.resultTypes.size) (s.fn H (ds++[])).results []:=by
  intro b sp hd;rw[List.append_nil,hs,ht];exact ⟨[],[],⟨1,by simp[DataW.trod,hu,Value.cells]⟩,rfl,rfl⟩
 have hvars:∀sp:Nat→Bool,DataW.TrodVars enc P W' sp s.vars (s.fn H (ds++[])).vars []:=by
  intro sp;rw[List.append_nil,hs,hv];rfl
 have hin:∀p∈ps++[],p.block<W.heap.size:=fun p hp=>hlt p (by simpa using hp)
 refine ⟨ds,[],ps++[],[],ps,[],hW,hres _ _ _,hall _ fun p hp=>by simpa using hin p hp,hvars _,World.keptBut_mono (fun p hp=>⟨hp,?_⟩) (hb.frame (· ∈ ps++[])),fun _=>⟨?_,_,_,([]++ps)++[],⟨[]++ps,[],trodAll_append (hall _ fun _ _=>rfl) (hres _ _ _),hvars _,rfl,?_,fun e=>by cases e⟩,?_⟩⟩
 ·exact .inr (by simpa using hp)
 ·intro j t r h1 h2;rw[ht] at h1 h2;have hj:j=0:=by
   rcases Nat.eq_zero_or_pos j with q | q
   ·exact q
   ·rw[Array.getElem?_eq_none (by simp;omega)] at h1;cases h1
  subst hj;simp at h1;subst h1;have h3:r = .bool true:=by
   simp[Value.resultList] at h2;exact h2.symm
  subst h3;simp[Value.okWide,hu,Cell.okWide,Cell.ok]
 ·intro b off hp;have hp':MemPlace.cell b off∈ps:=by simpa using hp
  rw[hb.frozen (hlt _ hp')];exact hz b off hp'
 ·intro p hp _
  simpa using hp
end
theorem args_nil {P:Program} {W:World} {F:Fz}:RdB P D0 (tupU []) () W F [] (cat []):=rfl
theorem p0m {P:Program} {W:World} {F:Fz} {t:Ty} {ts:List Ty} {x:El t} {xs:El (tupU ts)} {v:Value} {vs:List Value} (hf:formed t v) (hx:Rd P t x W F (one v)) (h:RdB P D0 (tupU ts) xs W F [] (cat vs)) :
  RdB P D0 (tupU (t::ts)) ((x,xs):El (tupU (t::ts))) W F [] (cat (v::vs)):=by
 refine ⟨[],[],rfl,RdB.congr t (e0l hf.2.2) (Rd.toB t hx),?_⟩;rw[f0l hf.2.2];exact h
end Go.Flat
end
section
namespace Go.Flat
open Go.RowKit (Below)
open Go.ChangeShapes Go.WideShapes
section
variable {P:Program} {w:World} {F:Fz}
end
end Go.Flat
end
section
namespace Go.Flat
open Go.RowKit
theorem d0h (x:List UInt8):(b0i x).length=x.length:=by simp[b0i]
theorem r0d (x:List UInt8):∀u∈b0i x,u.oneCell'=true:=by
 intro u hu;simp only[b0i,List.mem_map] at hu;obtain ⟨c,_,rfl⟩:=hu;rfl
theorem l0g {P:Program} (g o:Nat) (t:TypeId) {m:Nat×Nat}:∀(vs:List Value) (i:Nat) (cur:Array Value) (w:World),(m.1=m.2∨m.2≤o)→w.heap[g]? = some (.cells cur t m)→o+i+vs.length≤cur.size→(∀v∈vs,v.oneCell'=true) →
  (storeCells ⟨g,o,none⟩ vs i).run P w = .ok () (w.setRow g (cur.toList.take (o+i)++vs++cur.toList.drop (o+i+vs.length)).toArray)
 | [],i,cur,w,_,hg,_,_=>by
  simp only[storeCells,List.append_nil,List.length_nil,Nat.add_zero,List.take_append_drop,Array.toArray_toList];rw[setRow_self w g cur t m hg];rfl
 | v::rest,i,cur,w,hm,hg,hl,h1=>by
  have hi:o+i<cur.size:=by simp at hl;omega
  have hadd:(⟨g,o,none⟩:Addr).add i=⟨g,o+i,none⟩:=by unfold Addr.add;split<;>simp_all
  have hcell:w.cell? ⟨g,o+i,none⟩=some cur[o+i]:=by simp[World.cell?,hg,hi]
  have hfro:w.frozen? ⟨g,o+i,none⟩=false:=by
   obtain ⟨lo,hi2⟩:=m;simp only[World.frozen?,hg];have hno:¬(lo≤o+i∧o+i<hi2):=by
    rcases hm with h | h<;>simp only at h<;>omega
   by_cases h2:lo≤o+i
   ·have h3:¬(o+i<hi2):=fun k=>hno ⟨h2,k⟩
    simp[h3]
   ·simp[h2]
  have hst:(store ((⟨g,o,none⟩:Addr).add i) v).run P w = .ok () (w.setRow g (cur.setIfInBounds (o+i) v)):=by
   rw[hadd,run_store P w _ v _ (h1 v (by simp)),hcell];simp[hfro,setCell_eq_setRow w g (o+i) cur t m v hg]
  have ih:=l0g (P:=P) g o t (m:=m) rest (i+1) (cur.setIfInBounds (o+i) v) (w.setRow g (cur.setIfInBounds (o+i) v)) hm (setRow_heap w g cur _ t _ hg) (by simp at hl ⊢;omega) (fun x hx=>h1 x (by simp[hx]));simp only[storeCells,Sem.run_bind,hst,Result.andThen_ok,ih,setRow_setRow];congr 3;have e:=list_seg_step cur.toList (o+i) v rest (by simp at hl ⊢;omega)
  simpa [Array.toList_setIfInBounds,Nat.add_assoc] using e
section
variable {P:Program} {W:World} {e:TypeId}
theorem w0w {ts:Array TypeId} {t ty:TypeId} {i:TypeInfo} (ht0:ts[0]? = some t) (ht1:u0c P ts) (ht:P.underlying t=some (.slice e)) (hi:P.info? e=some i) (hz:i.zero=some (.int .u8 0)) (hs:i.size=1) (hb:i.bytes=1)
  {x y:List UInt8} {s u:Value} (hrow:RowU e u x W) (hsrc:Src P W 1 s y.length (b0i y)) (hlen:x.length+y.length≤140737488355328) :
  ∃u' W',(Builtin.append_ ts ty #[u,s]).run P W = .ok u' W'∧RowU e u' (x++y) W'∧W.grownBy W' u.ownBlock∧(u'.ownBlock=u.ownBlock∨u'.ownBlock=some W.heap.size)∧∃a n c,u' = .slice a n c:=by
 have hsrc':Src P W i.size s y.length (b0i y):=by rw[hs];exact hsrc
 have hmax:x.length+y.length≤maxLen:=by simp only[maxLen];omega
 have grow:∀ {a:Option Addr} {cap:Nat},u = .slice a x.length cap→cap<x.length+y.length →
   (∀w':World,(∀q,w'.cell? q=W.cell? q)→(Builtin.firstCells i.size x.length (.slice a x.length cap)).run P w' = .ok (b0i x).toArray w') →
   ∃u' W',(Builtin.append_ ts ty #[u,s]).run P W = .ok u' W'∧RowU e u' (x++y) W'∧W.grownBy W' u.ownBlock∧(u'.ownBlock=u.ownBlock∨u'.ownBlock=some W.heap.size)∧∃a n c,u' = .slice a n c:=by
  intro a cap hu hcap hold;have hrun:=k0o (ty:=ty) ht0 ht1 ht hi hz hsrc' hcap (by rw[hb];decide) (by rw[hb];omega) hold;rw[←hu] at hrun;have hge:=grownCap_ge W (x.length+y.length) cap e;have hlist:(c0u W (Value.int IntKind.u8 0).cells (b0i x) (b0i y) (x.length+y.length) cap e).toList=b0i x++(b0i y++(Builtin.zeroCells (Value.int IntKind.u8 0).cells (grownCap W (x.length+y.length) cap e-(x.length+y.length))).toList):=by
   simp[c0u]
  have hz1:(Value.int IntKind.u8 0).cells.size=1:=rfl;refine ⟨_,_,hrun,.inr ⟨W.heap.size,_,_,(0,0),by rw[List.length_append],j0h W.drew _,.inl rfl,by rw[List.length_append];exact hge,⟨grownCap_le_maxLen W _ cap e hmax,by omega⟩,?_,?_⟩,
   ⟨rfl,rfl,rfl,by simp,fun k hk _=>f0p W.drew _ k hk⟩,.inr rfl,_,_,_,rfl⟩
  ·have hzl:(Builtin.zeroCells (Value.int IntKind.u8 0).cells (grownCap W (x.length+y.length) cap e-(x.length+y.length))).toList.length=grownCap W (x.length+y.length) cap e-(x.length+y.length):=by
    rw[Array.length_toList,size_zeroCells,hz1,Nat.mul_one]
   have hsz:=congrArg List.length hlist;rw[List.length_append,List.length_append,d0h,d0h,hzl] at hsz;rw[←Array.length_toList (xs:=c0u W (Value.int IntKind.u8 0).cells (b0i x) (b0i y) (x.length+y.length) cap e),hsz];omega
  ·rw[hlist,←List.append_assoc];have:(x++y).length=(b0i x++b0i y).length:=by simp[d0h]
   rw[this,List.take_left];simp[b0i]
 rcases hrow with ⟨rfl,rfl⟩ | ⟨g,cap,cur,m,rfl,hg,hmk,hxc,hcm,hcs,htake⟩
 ·rcases Nat.eq_zero_or_pos y.length with hy | hy
  ·have hyn:y=[]:=List.eq_nil_of_length_eq_zero hy;subst hyn;have hrun:=e0w (P:=P) (W:=W) (W':=W) (ty:=ty) (n:=0) (cap:=0) (b:=none) ht0 ht1 ht hi hsrc' (by simp) (fun _ h=>by cases h) (fun _=>rfl);exact ⟨_,W,hrun,.inl ⟨rfl,rfl⟩,⟨rfl,rfl,rfl,Nat.le_refl _,fun _ _ _=>rfl⟩,.inl rfl,_,_,_,rfl⟩
  ·refine grow (a:=none) (cap:=0) rfl (by simpa using hy) (fun w' _=>by simp[Builtin.firstCells,b0i])
 ·by_cases hfit:x.length+y.length≤cap
  ·have hle:x.length+(b0i y).length≤cur.size:=by rw[d0h,hcs];exact hfit
   have hst:=l0g (P:=P) g x.length e (b0i y) 0 cur W hmk hg (by simpa using hle) (r0d y);simp only[Nat.add_zero] at hst;have hrun:=e0w (P:=P) (W:=W) (ty:=ty) (n:=x.length) (cap:=cap) (b:=some ⟨g,0,none⟩) ht0 ht1 ht hi hsrc' hfit
    (fun ad hd=>by injection hd with hd;subst hd;rw[hs,addr_add,Nat.zero_add,Nat.mul_one];exact hst) (fun h=>by cases h)
   refine ⟨_,_,hrun,.inr ⟨g,cap,_,m,by rw[List.length_append],setRow_heap W g cur _ e _ hg,hmk.imp id (fun q=>by rw[List.length_append];omega),by rw[List.length_append];exact hfit,hcm,?_,?_⟩,
    ⟨rfl,rfl,rfl,by simp,fun k _ hk=>setRow_other W g k _ (fun q=>hk (by rw[q];rfl))⟩,.inl rfl,_,_,_,rfl⟩
   ·simp only[List.size_toArray,List.length_append,List.length_take,List.length_drop,Array.length_toList];omega
   ·rw[htake];have:(x++y).length=(b0i x++b0i y).length:=by simp[d0h]
    rw[this,List.take_left];simp[b0i]
  ·refine grow (a:=some ⟨g,0,none⟩) (cap:=cap) rfl (by omega) (fun w' hw' => ?_);refine run_firstCells_some w' i.size _ ⟨g,0,none⟩ _ cap (b0i x) (by rw[hs,d0h,Nat.mul_one]) (fun j v hv => ?_);rw[hw',addr_add,Nat.zero_add,cell_of_row W g j cur e m hg];rw[←htake,List.getElem?_take] at hv;split at hv
   ·rw[←Array.getElem?_toList];exact hv
   ·cases hv
theorem l0f {ops:Array Oper} {rest:List Oper} {o:Oper} {a:Act} {Q:Exit→Act→World→Prop} (hgd:o.guard=none) (p q:Operand) {ts:Array TypeId} {t:TypeId} {i:TypeInfo}
  (ho:o.op = .call { callee := .builtin .append,args := #[p,q],argTypes:=ts }) (ht0:ts[0]? = some t) (ht1:u0c P ts) (ht:P.underlying t=some (.slice e)) (hi:P.info? e=some i) (hz:i.zero=some (.int .u8 0)) (hs:i.size=1) (hb:i.bytes=1)
  {x y:List UInt8} {s u:Value} (hp:a.eval p=u) (hq:a.eval q=s) (hrow:RowU e u x W) (hsrc:Src P W 1 s y.length (b0i y)) (hlen:x.length+y.length≤140737488355328)
  (hK:∀b n c W',RowU e (.slice b n c) (x++y) W'→W.grownBy W' u.ownBlock→((Value.slice b n c).ownBlock=u.ownBlock∨(Value.slice b n c).ownBlock=some W.heap.size)→wpList P ops Q rest (a.put o.dst (.slice b n c)) W') :
  wpList P ops Q (o::rest) a W:=by
 refine wpList_plain hgd fun K hK' => ?_
 obtain ⟨u',W',hr,h2,h3,h4,b,n,c,rfl⟩:=w0w (ty:=o.type) ht0 ht1 ht hi hz hs hb hrow hsrc hlen;unfold Oper.wp execOp;simp only[ho,resolve,invoke,builtin,Sem.run_bind,Sem.run_pure,Result.andThen_ok,List.map_toArray,List.map_cons,List.map_nil,hp,hq,hr];exact hK' _ _ (hK b n c W' h2 h3 h4)
end
end Go.Flat
end
section
set_option linter.unusedVariables false
namespace Go.Flat
open Go.Shelf Go.RowKit Go.Proofs
structure But (O:Nat→Prop) (w w':World):Prop where
 os:w'.os=w.os
 tape:w'.tape=w.tape
 output:w'.output=w.output
 size:w.heap.size≤w'.heap.size
 same:∀k,k<w.heap.size→¬O k→w'.heap[k]? = w.heap[k]?
theorem But.refl (O:Nat→Prop) (w:World):But O w w:=⟨rfl,rfl,rfl,Nat.le_refl _,fun _ _ _=>rfl⟩
theorem But.grown {O:Nat→Prop} {w w1 w2:World} {row:Option Nat} (h:But O w w1) (hg:w1.grownBy w2 row) (hr:∀k,row=some k→O k∨w.heap.size≤k):But O w w2 :=
 ⟨hg.os.trans h.os,hg.tape.trans h.tape,hg.output.trans h.output,Nat.le_trans h.size hg.size,fun k hk ho=>(hg.block k (Nat.lt_of_lt_of_le hk h.size) (fun e=>by
  rcases hr k e.symm with q | q
  ·exact ho q
  ·omega)).trans (h.same k hk ho)⟩
theorem But.alloc {O:Nat→Prop} {w w1:World} (h:But O w w1) (o:Obj):But O w (w1.alloc o):=h.grown (World.grownBy_alloc w1 o none) (fun _ e=>by cases e)
theorem But.setCell {O:Nat→Prop} {w w1:World} (h:But O w w1) {b:Nat} (hb:O b∨w.heap.size≤b) (j:Nat) (v:Value):But O w (w1.setCell ⟨b,j,none⟩ v) :=
 h.grown (row:=some b) ⟨rfl,rfl,rfl,by simp[World.setCell],fun k _ hk=>Below.heap_setCell _ _ _ _ (fun e=>hk (by simp[e]))⟩ (fun k e=>by cases e;exact hb)
theorem But.drew {O:Nat→Prop} {w w1:World} (h:But O w w1):But O w w1.drew:=⟨h.os,h.tape,h.output,h.size,h.same⟩
variable {P:Program} {ρ:Ren}
structure BldL (P:Program) (ρ:Ren):Prop where
 mixed:P.follows .mixedOrders=true
 e240:∀args w,(callFunc (ρ.f 240) args).run P w = .ok (.enter (ρ.f 240) args) w
 copy:∀(b:Nat) (p v:Value) (w:World),(p = .pointer none∨p = .pointer (some ⟨b,0,none⟩))→w.heap[b]? = some (.cells #[p,v] (ρ.t 72) (0,0)) →
  Calls P (ρ.f 240) #[.pointer (some ⟨b,0,none⟩)] w fun e w'=>e = .returned (.tuple #[])∧w'.heap[b]? = some (.cells #[.pointer (some ⟨b,0,none⟩),v] (ρ.t 72) (0,0))∧But (· = b) w w'∧w'.heap.size=w.heap.size
 t3:P.underlying (ρ.t 3)=some (TypeDesc.int IntKind.i64)
 a3:∀w,(isAgg (ρ.t 3)).run P w = .ok false w
 z3:∀w,(Go.sizeOf (ρ.t 3)).run P w = .ok 1 w
 v3:∀w,(zeroValue (ρ.t 3)).run P w = .ok (Value.int IntKind.i64 0) w
 t4:P.underlying (ρ.t 4)=some (TypeDesc.bool)
 a4:∀w,(isAgg (ρ.t 4)).run P w = .ok false w
 z4:∀w,(Go.sizeOf (ρ.t 4)).run P w = .ok 1 w
 v4:∀w,(zeroValue (ρ.t 4)).run P w = .ok (Value.bool false) w
 t5:P.underlying (ρ.t 5)=some (TypeDesc.int IntKind.u8)
 a5:∀w,(isAgg (ρ.t 5)).run P w = .ok false w
 z5:∀w,(Go.sizeOf (ρ.t 5)).run P w = .ok 1 w
 v5:∀w,(zeroValue (ρ.t 5)).run P w = .ok (Value.int IntKind.u8 0) w
 t9:P.underlying (ρ.t 9)=some (TypeDesc.string)
 a9:∀w,(isAgg (ρ.t 9)).run P w = .ok false w
 z9:∀w,(Go.sizeOf (ρ.t 9)).run P w = .ok 1 w
 v9:∀w,(zeroValue (ρ.t 9)).run P w = .ok (Value.string { data := #[] }) w
 t37:P.underlying (ρ.t 37)=some (TypeDesc.slice (ρ.t 5))
 a37:∀w,(isAgg (ρ.t 37)).run P w = .ok false w
 z37:∀w,(Go.sizeOf (ρ.t 37)).run P w = .ok 1 w
 v37:∀w,(zeroValue (ρ.t 37)).run P w = .ok (Value.slice none 0 0) w
 t70:P.underlying (ρ.t 70)=some (TypeDesc.pointer (ρ.t 72))
 a70:∀w,(isAgg (ρ.t 70)).run P w = .ok false w
 z70:∀w,(Go.sizeOf (ρ.t 70)).run P w = .ok 1 w
 v70:∀w,(zeroValue (ρ.t 70)).run P w = .ok (Value.pointer none) w
 t72 : P.underlying (ρ.t 72) = some (TypeDesc.struct #[{ name := "addr", type := ρ.t 70, offset := 0, embedded := false, tag := "", pkgPath := "strings", byteOffset := 0 }, { name := "buf", type := ρ.t 37, offset := 1, embedded := false, tag := "", pkgPath := "strings", byteOffset := 8 }])
 a72:∀w,(isAgg (ρ.t 72)).run P w = .ok true w
 z72:∀w,(Go.sizeOf (ρ.t 72)).run P w = .ok 2 w
 v72:∀w,(zeroValue (ρ.t 72)).run P w = .ok (Value.agg #[Value.pointer none,Value.slice none 0 0]) w
theorem bld_copy {P:Program} {F T:Nat} (h1:∀(b:Nat) (w:World),w.cell? ⟨b,0,none⟩=some (.pointer (some ⟨b,0,none⟩))→Calls P F #[.pointer (some ⟨b,0,none⟩)] w fun e w'=>e = .returned (.tuple #[])∧w'=w)
  (h2:∀(b:Nat) (w:World),w.cell? ⟨b,0,none⟩=some (.pointer none)→w.shape? b=some (T,2)→w.frozen? ⟨b,0,none⟩=false→Calls P F #[.pointer (some ⟨b,0,none⟩)] w fun e w'=>e = .returned (.tuple #[])∧w'=w.setCell ⟨b,0,none⟩ (.pointer (some ⟨b,0,none⟩)))
  (b:Nat) (p v:Value) (w:World) (hp:p = .pointer none∨p = .pointer (some ⟨b,0,none⟩)) (hb:w.heap[b]? = some (.cells #[p,v] T (0,0))) :
  Calls P F #[.pointer (some ⟨b,0,none⟩)] w fun e w'=>e = .returned (.tuple #[])∧w'.heap[b]? = some (.cells #[.pointer (some ⟨b,0,none⟩),v] T (0,0))∧But (· = b) w w'∧w'.heap.size=w.heap.size:=by
 have c0:w.cell? ⟨b,0,none⟩=some p:=by rw[Lib.cell_of_heap hb];rfl
 rcases hp with rfl | rfl
 ·refine (h2 b w c0 (by simp[World.shape?,hb]) (Lib.frozen_of_heap hb 0)).mono ?_;rintro e w' ⟨rfl,rfl⟩;refine ⟨rfl,?_,(But.refl (· = b) w).setCell (.inl rfl) 0 _,by simp[World.setCell]⟩;simp[World.setCell,Array.getElem?_modify,hb]
 ·refine (h1 b w c0).mono ?_;rintro e w' ⟨rfl,rfl⟩;exact ⟨rfl,hb,But.refl _ _,rfl⟩
theorem k1u {T e b:Nat} {x:List UInt8} {v v':Value} {w w1 w2:World} {bs:List Nat} (hTe:T≠e) (hb1:w1.heap[b]? = some (.cells #[.pointer (some ⟨b,0,none⟩),v] T (0,0))) (hbut:But (· = b) w w1)
  (hrow:RowU e v' x w2) (hg:w1.grownBy w2 v.ownBlock) (hat:v'.ownBlock=v.ownBlock∨v'.ownBlock=some w1.heap.size) (hne:v.ownBlock≠some b) (hbs:∀k,v.ownBlock=some k→k∈bs) (hbb:b∈bs) :
  ∃bs',h0f T e b x (w2.setCell ⟨b,1,none⟩ v') bs'∧(∀k∈bs',k∈bs∨w.heap.size≤k)∧But (· ∈ bs) w (w2.setCell ⟨b,1,none⟩ v'):=by
 have hlt:b<w1.heap.size:=b0k? hb1;have hb2:w2.heap[b]? = some (.cells #[.pointer (some ⟨b,0,none⟩),v] T (0,0)):=by
  rw[hg.block b hlt (fun e=>hne e.symm)];exact hb1
 have hne':v'.ownBlock≠some b:=by
  rcases hat with h | h
  ·rw[h];exact hne
  ·rw[h];intro e;injection e with e;omega
 have hb3:(w2.setCell ⟨b,1,none⟩ v').heap[b]? = some (.cells #[.pointer (some ⟨b,0,none⟩),v'] T (0,0)):=by
  simp[World.setCell,Array.getElem?_modify,hb2]
 have hother:∀g,g≠b→(w2.setCell ⟨b,1,none⟩ v').heap[g]? = w2.heap[g]? := fun g hgb=>Below.heap_setCell _ _ _ _ (fun e=>hgb (by simp[e]))
 have hloc:∀k,v'.ownBlock=some k→k∈bs∨w.heap.size≤k:=by
  intro k hk;rcases hat with h | h
  ·exact .inl (hbs k (h ▸ hk))
  ·rw[h] at hk;injection hk with hk;have:=hbut.size;exact .inr (by omega)
 have hkeep:But (· ∈ bs) w (w2.setCell ⟨b,1,none⟩ v'):=by
  have h1:But (· ∈ bs) w w1:=⟨hbut.os,hbut.tape,hbut.output,hbut.size,fun k hk ho=>hbut.same k hk (fun e=>ho (e ▸ hbb))⟩;exact (h1.grown hg (fun k hk => .inl (hbs k hk))).setCell (.inl hbb) 1 _
 refine ⟨b::v'.ownBlock.toList,⟨_,_,.inr rfl,hb3,hrow.kept fun g hgo=>hother g (fun e=>hne' (by rw[hgo,e])),hne',rfl⟩,fun k hk => ?_,hkeep⟩;rcases List.mem_cons.1 hk with rfl | hk
 ·exact .inl hbb
 ·exact hloc k (by simpa using hk)
set_option maxHeartbeats 2000000 in
set_option maxRecDepth 100000 in
theorem hb_WriteByte (L:BldL P ρ) (X:Builder.Extra P ρ) (f167:P.funcs[ρ.f 167]? = some (Body.n167 ρ)) {b:Nat} {x:List UInt8} {bs:List Nat} (c:UInt8) (w:World) (h:h0f (ρ.t 72) (ρ.t 5) b x w bs) (hlen:x.length+1≤140737488355328) :
  Calls P (ρ.f 167) #[.pointer (some ⟨b,0,none⟩),.int .u8 (c.toNat:Int)] w fun e w'=>e = .returned .nilIface∧∃bs',h0f (ρ.t 72) (ρ.t 5) b (x++[c]) w' bs'∧(∀k∈bs',k∈bs∨w.heap.size≤k)∧But (· ∈ bs) w w':=by
 obtain ⟨p,v,hp,hbk0,hrow0,hne0,rfl⟩:=h;obtain ⟨i0,hi,hz0,hz1,hz2⟩:=info_parts X.infoByte;have mixed:=L.mixed;have t72:=L.t72;have a72:=L.a72;have z72:=L.z72;have v72:=L.v72;have u72:=run_underlying L.t72;have t70:=L.t70;have a70:=L.a70;have z70:=L.z70;have v70:=L.v70;have u70:=run_underlying L.t70;have t5:=L.t5;have a5:=L.a5;have z5:=L.z5;have v5:=L.v5;have u5:=run_underlying L.t5;have t37:=L.t37;have a37:=L.a37;have z37:=L.z37;have v37:=L.v37;have u37:=run_underlying L.t37;have t9:=L.t9;have a9:=L.a9;have z9:=L.z9;have v9:=L.v9;have u9:=run_underlying L.t9
 have t4:=L.t4;have a4:=L.a4;have z4:=L.z4;have v4:=L.v4;have u4:=run_underlying L.t4;have e240:=L.e240
 go_enter f167,Body.n167_ntmps ρ
 go_wp2_with (go_at_fn (ρ.f 240);refine (L.copy b p v w hp hbk0).mono ?_)
 rintro e w1 ⟨rfl,hbk,hbut,-⟩;have hlt:b<w1.heap.size:=b0k? hbk;have hrow:RowU (ρ.t 5) v x w1:=hrow0.kept fun g hg=>hbut.same g (hrow0.lt g hg) (fun e=>hne0 (by rw[hg,e]))
 have c0:w1.cell? ⟨b,0,none⟩=some (.pointer (some ⟨b,0,none⟩)):=by rw[Lib.cell_of_heap hbk];rfl
 have c1:w1.cell? ⟨b,1,none⟩=some v:=by rw[Lib.cell_of_heap hbk];rfl
 have hsrc:Src P (w1.alloc (.cells #[.int .u8 (c.toNat:Int)] (ρ.t 5))) 1 (.slice (some ⟨w1.heap.size,0,none⟩) 1 1) 1 (b0i [c]) :=
  ⟨rfl,fun w' hw'=>run_firstCells_some w' 1 1 ⟨w1.heap.size,0,none⟩ 1 1 (b0i [c]) rfl (fun j u hu=>by
   rw[hw',addr_add,Nat.zero_add,cell_of_row _ _ j _ _ _ (j0h w1 _)]
   match j,hu with
   | 0,hu=>simpa [b0i] using hu),rfl,r0d [c]⟩
 go_wp2_with (at_builtin;refine l0f (x:=x) (y:=[c]) rfl _ _ rfl rfl (fun u hu => .inl ⟨_,by cases hu;exact L.t37⟩) L.t37 hi hz0 hz1 hz2 rfl rfl (hrow.kept fun g hg=>f0p _ _ g (hrow.lt g hg)) hsrc (by simpa using hlen) ?_)
 intro a n q w2 hown' hgrow hat;have hbka:(w1.alloc (.cells #[.int .u8 (c.toNat:Int)] (ρ.t 5))).heap[b]? = some (.cells #[.pointer (some ⟨b,0,none⟩),v] (ρ.t 72) (0,0)):=(f0p _ _ b hlt).trans hbk;have hb2:w2.heap[b]? = some (.cells #[.pointer (some ⟨b,0,none⟩),v] (ρ.t 72) (0,0)):=by
  rw[hgrow.block b (b0k? hbka) (fun e=>hne0 e.symm)];exact hbka
 have d0:w2.cell? ⟨b,0,none⟩=some (.pointer (some ⟨b,0,none⟩)):=by rw[Lib.cell_of_heap hb2];rfl
 have d1:w2.cell? ⟨b,1,none⟩=some v:=by rw[Lib.cell_of_heap hb2];rfl
 have f1:w2.frozen? ⟨b,1,none⟩=false:=Lib.frozen_of_heap hb2 1
 go_wp2
 go_ret
 exact ⟨rfl,k1u X.neB5 hbka (hbut.alloc _) hown' hgrow (by rw[World.size_alloc];exact hat) hne0 (fun k hk=>by simp[hk]) (by simp)⟩
set_option maxHeartbeats 2000000 in
set_option maxRecDepth 100000 in
theorem u0l (L:BldL P ρ) (X:Builder.Extra P ρ) (f166:P.funcs[ρ.f 166]? = some (Body.n166 ρ)) {b:Nat} {x:List UInt8} {bs:List Nat} (s:List UInt8) (w:World) (h:h0f (ρ.t 72) (ρ.t 5) b x w bs) (hlen:x.length+s.length≤140737488355328) :
  Calls P (ρ.f 166) #[.pointer (some ⟨b,0,none⟩),.string ⟨s.toArray⟩] w fun e w'=>e = .returned (.tuple #[.int .i64 s.length,.nilIface])∧∃bs',h0f (ρ.t 72) (ρ.t 5) b (x++s) w' bs'∧(∀k∈bs',k∈bs∨w.heap.size≤k)∧But (· ∈ bs) w w':=by
 obtain ⟨p,v,hp,hbk0,hrow0,hne0,rfl⟩:=h;obtain ⟨i0,hi,hz0,hz1,hz2⟩:=info_parts X.infoByte;have mixed:=L.mixed;have t72:=L.t72;have a72:=L.a72;have z72:=L.z72;have v72:=L.v72;have u72:=run_underlying L.t72;have t70:=L.t70;have a70:=L.a70;have z70:=L.z70;have v70:=L.v70;have u70:=run_underlying L.t70;have t37:=L.t37;have a37:=L.a37;have z37:=L.z37;have v37:=L.v37;have u37:=run_underlying L.t37;have t3:=L.t3;have a3:=L.a3;have z3:=L.z3;have v3:=L.v3;have u3:=run_underlying L.t3;have t9:=L.t9;have a9:=L.a9;have z9:=L.z9;have v9:=L.v9;have u9:=run_underlying L.t9
 have t4:=L.t4;have a4:=L.a4;have z4:=L.z4;have v4:=L.v4;have u4:=run_underlying L.t4;have t5:=X.t5;have a5:=X.a5;have z5:=X.z5;have v5:=X.v5;have u5:=run_underlying X.t5;have e240:=L.e240
 go_enter f166,Body.n166_ntmps ρ
 go_wp2_with (go_at_fn (ρ.f 240);refine (L.copy b p v w hp hbk0).mono ?_)
 rintro e w1 ⟨rfl,hbk,hbut,-⟩;have hlt:b<w1.heap.size:=b0k? hbk;have hrow:RowU (ρ.t 5) v x w1:=hrow0.kept fun g hg=>hbut.same g (hrow0.lt g hg) (fun e=>hne0 (by rw[hg,e]))
 have c0:w1.cell? ⟨b,0,none⟩=some (.pointer (some ⟨b,0,none⟩)):=by rw[Lib.cell_of_heap hbk];rfl
 have c1:w1.cell? ⟨b,1,none⟩=some v:=by rw[Lib.cell_of_heap hbk];rfl
 go_wp2_with (at_builtin;refine l0f (x:=x) (y:=s) rfl _ _ rfl rfl (fun u hu => .inr (by cases hu;exact L.t9)) L.t37 hi hz0 hz1 hz2 rfl rfl hrow (h1p s) hlen ?_)
 intro a n q w2 hown' hgrow hat;have hb2:w2.heap[b]? = some (.cells #[.pointer (some ⟨b,0,none⟩),v] (ρ.t 72) (0,0)):=by
  rw[hgrow.block b hlt (fun e=>hne0 e.symm)];exact hbk
 have d0:w2.cell? ⟨b,0,none⟩=some (.pointer (some ⟨b,0,none⟩)):=by rw[Lib.cell_of_heap hb2];rfl
 have d1:w2.cell? ⟨b,1,none⟩=some v:=by rw[Lib.cell_of_heap hb2];rfl
 have f1:w2.frozen? ⟨b,1,none⟩=false:=Lib.frozen_of_heap hb2 1
 go_wp2
 go_ret2
 exact ⟨rfl,k1u X.neB5 hbk hbut hown' hgrow hat hne0 (fun k hk=>by simp[hk]) (by simp)⟩
theorem But.freeze {O:Nat→Prop} {w w1:World} (h:But O w w1) {g:Nat} (hg:O g) (n:Nat):But O w (w1.freeze ⟨g,0,none⟩ n):=by
 unfold World.freeze;split
 ·exact h
 ·exact ⟨h.os,h.tape,h.output,by simpa using h.size,fun k hk ho=>by
   simp only[Array.getElem?_modify];rw[if_neg (fun q=>ho (by rw[←q];exact hg))]
   exact h.same k hk ho⟩
theorem g1j {T e b g cap:Nat} {x:List UInt8} {p:Value} {cur:Array Value} {m:Nat×Nat} {w:World} (hp:p = .pointer none∨p = .pointer (some ⟨b,0,none⟩)) (hb:w.heap[b]? = some (.cells #[p,.slice (some ⟨g,0,none⟩) x.length cap] T (0,0)))
  (hg:w.heap[g]? = some (.cells cur e m)) (k0:m.1=m.2∨m.2≤x.length) (k1:x.length≤cap) (k2:cap≤maxLen∧0<cap) (k3:cur.size=cap) (k5:cur.toList.take x.length=b0i x) (hne:g≠b) (h0:x.length≠0) :
  h0f T e b x (w.drew.freeze ⟨g,0,none⟩ x.length) (b::(Value.slice (some ⟨g,0,none⟩) x.length cap).ownBlock.toList):=by
 refine ⟨p,_,hp,?_,.inr ⟨g,cap,cur,(if m.1==m.2 then (0,0+x.length) else (min m.1 0,max m.2 (0+x.length))),rfl,?_,?_,k1,k2,k3,k5⟩,by simp[Value.ownBlock,hne],rfl⟩
 ·unfold World.freeze;rw[if_neg h0];simp only[Array.getElem?_modify];rw[if_neg hne];exact hb
 ·unfold World.freeze;rw[if_neg h0];simp only[Array.getElem?_modify,if_true];have:w.drew.heap[g]? = some (.cells cur e m):=hg;rw[this];rfl
 ·right;split
  ·simp
  ·rename_i hq;have:m.1≠m.2:=by simpa using hq
   rcases k0 with k0 | k0
   ·exact absurd k0 this
   ·simp only;omega
set_option maxHeartbeats 2000000 in
set_option maxRecDepth 100000 in
theorem j1t (L:Lays.n169 P ρ) (X:Builder.Extra P ρ) {b:Nat} {x:List UInt8} {bs:List Nat} (w:World) (h:h0f (ρ.t 72) (ρ.t 5) b x w bs) :
  Calls P (ρ.f 169) #[.pointer (some ⟨b,0,none⟩)] w fun e w'=>e = .returned (.string ⟨x.toArray⟩)∧h0f (ρ.t 72) (ρ.t 5) b x w' bs∧But (· ∈ bs) w w':=by
 have hall:=h;obtain ⟨p,v,hp,hbk,hrow,hne,rfl⟩:=h;have mixed:=L.mixed;rcases hrow with ⟨rfl,rfl⟩ | ⟨g,cap,cur,m,rfl,hg,k0,k1,k2,k3,k5⟩
 ·have hUS:=Any.unsafeString_none L X;have c1:w.drew.cell? ⟨b,1,none⟩=some (.slice none 0 0):=by
   have:w.drew.heap[b]? = some (.cells #[p,.slice none 0 0] (ρ.t 72) (0,0)):=hbk;rw[Lib.cell_of_heap this];rfl
  have hSD:(Builtin.unsafeSliceData_ #[(ρ.t 37)] (ρ.t 127) #[.slice none 0 0]).run P w.drew = .ok (.pointer none) w.drew:=rfl;have t72:=L.t72;have a72:=L.a72;have z72:=L.z72;have v72:=L.v72;have u72:=run_underlying L.t72;have t70:=L.t70;have a70:=L.a70;have z70:=L.z70;have v70:=L.v70;have u70:=run_underlying L.t70;have t37:=L.t37;have a37:=L.a37;have z37:=L.z37;have v37:=L.v37;have u37:=run_underlying L.t37;have t127:=L.t127;have a127:=L.a127;have z127:=L.z127;have v127:=L.v127;have u127:=run_underlying L.t127
  have t3:=L.t3;have a3:=L.a3;have z3:=L.z3;have v3:=L.v3;have u3:=run_underlying L.t3;have t9:=L.t9;have a9:=L.a9;have z9:=L.z9;have v9:=L.v9;have u9:=run_underlying L.t9;have t5:=X.t5;have a5:=X.a5;have z5:=X.z5;have v5:=X.v5;have u5:=run_underlying X.t5
  go_enter L.f169,Body.n169_ntmps ρ
  go_wp2
  go_region_o
  all_goals (go_wp2;go_ret;exact ⟨rfl,hall.same (fun _ _=>rfl),(But.refl _ w).drew⟩)
 ·by_cases h0:x=[]
  ·subst h0;refine (Any.Builder_String_room L X w.heap.size b g cap p w (by omega) hbk).mono ?_;rintro e w' ⟨rfl,hB⟩;exact ⟨rfl,hall.same (fun c hc=>hB.block c (hall.lt c hc)),hB.os,hB.tape,hB.output,hB.size,fun k hk _=>hB.block k hk⟩
  have hfz:=g1j hp hbk hg k0 k1 k2 k3 k5 (by simpa [Value.ownBlock] using hne) (fun q=>h0 (List.eq_nil_of_length_eq_zero q));have c1:w.drew.cell? ⟨b,1,none⟩=some (.slice (some ⟨g,0,none⟩) x.length cap):=by
   have:w.drew.heap[b]? = some (.cells #[p,.slice (some ⟨g,0,none⟩) x.length cap] (ρ.t 72) (0,0)):=hbk;rw[Lib.cell_of_heap this];rfl
  have hSD:(Builtin.unsafeSliceData_ #[(ρ.t 37)] (ρ.t 127) #[.slice (some ⟨g,0,none⟩) x.length cap]).run P w.drew = .ok (.pointer (some ⟨g,0,none⟩)) w.drew :=
   Lib.run_unsafeSliceData_row _ _ _ _ _ _ (by omega)
  have hUS:(Builtin.unsafeString_ #[(ρ.t 127),(ρ.t 3)] (ρ.t 9) #[.pointer (some ⟨g,0,none⟩),.int .i64 x.length]).run P w.drew = .ok (.string ⟨x.toArray⟩) (w.drew.freeze ⟨g,0,none⟩ x.length):=by
   refine Lib.run_unsafeString_row w.drew (ρ.t 127) (ρ.t 3) (ρ.t 9) (ρ.t 5) L.t127 X.cellsByte g cur.size (by have hg':w.drew.heap[g]? = some (.cells cur (ρ.t 5) m):=hg;simp[World.shape?,hg']) x h0 (by omega) (by have:=k2.1;unfold maxLen at this;omega) ?_;intro j y hy;have hg':w.drew.heap[g]? = some (.cells cur (ρ.t 5) m):=hg;rw[addr_add,Nat.zero_add,cell_of_row _ g j cur _ _ hg',←Array.getElem?_toList];have h1:(cur.toList.take x.length)[j]? = some (.int .u8 y.toNat):=by rw[k5];simp[b0i,hy]
   rw[List.getElem?_take] at h1;split at h1
   ·exact h1
   ·cases h1
  have t72:=L.t72;have a72:=L.a72;have z72:=L.z72;have v72:=L.v72;have u72:=run_underlying L.t72;have t70:=L.t70;have a70:=L.a70;have z70:=L.z70;have v70:=L.v70;have u70:=run_underlying L.t70;have t37:=L.t37;have a37:=L.a37;have z37:=L.z37;have v37:=L.v37;have u37:=run_underlying L.t37;have t127:=L.t127;have a127:=L.a127;have z127:=L.z127;have v127:=L.v127;have u127:=run_underlying L.t127;have t3:=L.t3;have a3:=L.a3;have z3:=L.z3;have v3:=L.v3;have u3:=run_underlying L.t3;have t9:=L.t9;have a9:=L.a9;have z9:=L.z9;have v9:=L.v9;have u9:=run_underlying L.t9
  have t5:=X.t5;have a5:=X.a5;have z5:=X.z5;have v5:=X.v5;have u5:=run_underlying X.t5
  go_enter L.f169,Body.n169_ntmps ρ
  go_wp2
  go_region_o
  all_goals (go_wp2;go_ret;exact ⟨rfl,hfz,((But.refl _ w).drew).freeze (by simp[Value.ownBlock]) _⟩)
set_option maxHeartbeats 1000000 in
set_option maxRecDepth 100000 in
theorem hb_Len (L:BldL P ρ) (f170:P.funcs[ρ.f 170]? = some (Body.n170 ρ)) {b:Nat} {x:List UInt8} {bs:List Nat} (w:World) (h:h0f (ρ.t 72) (ρ.t 5) b x w bs) :
  Calls P (ρ.f 170) #[.pointer (some ⟨b,0,none⟩)] w fun e w'=>e = .returned (.int .i64 x.length)∧w'=w:=by
 obtain ⟨p,v,hp,hbk,hrow,hne,rfl⟩:=h;obtain ⟨ao,cap,rfl⟩:∃ao cap,v = .slice ao x.length cap:=by
  rcases hrow with ⟨rfl,rfl⟩ | ⟨g,cap,cur,m,rfl,_⟩
  ·exact ⟨none,0,rfl⟩
  ·exact ⟨_,_,rfl⟩
 have c1:w.cell? ⟨b,1,none⟩=some (.slice ao x.length cap):=by rw[Lib.cell_of_heap hbk];rfl
 have mixed:=L.mixed;have t72:=L.t72;have a72:=L.a72;have z72:=L.z72;have v72:=L.v72;have u72:=run_underlying L.t72;have t70:=L.t70;have a70:=L.a70;have z70:=L.z70;have v70:=L.v70;have u70:=run_underlying L.t70;have t37:=L.t37;have a37:=L.a37;have z37:=L.z37;have v37:=L.v37;have u37:=run_underlying L.t37;have t3:=L.t3;have a3:=L.a3;have z3:=L.z3;have v3:=L.v3;have u3:=run_underlying L.t3
 go_enter f170,Body.n170_ntmps ρ
 go_wp2
 go_ret
 exact ⟨rfl,rfl⟩
structure GrowL (P:Program) (ρ:Ren):Prop where
 f165:P.funcs[ρ.f 165]? = some (Body.n165 ρ)
 f241:P.funcs[ρ.f 241]? = some (Body.n241 ρ)
 e241:∀args w,(callFunc (ρ.f 241) args).run P w = .ok (.enter (ρ.f 241) args) w
 room:∀(n:Nat) (w:World),n≤281474976710656→∃cs:Array Value,(callFunc (ρ.f 277) #[.int .i64 n]).run P w = .ok (.value (.slice (some ⟨w.heap.size,0,none⟩) n cs.size)) (w.drew.drew.alloc (.cells cs (ρ.t 5)))∧n≤cs.size∧(n≤maxLen→cs.size≤maxLen)
theorem room_run {P:Program} {ps:Array TypeId} {t e:TypeId} (ht:P.underlying t=some (.slice e)) {F:Nat} (hF:∀n w v w',(Extern.BytealgMakeNoZero.makeNoZero ps #[t] #[.int .i64 n]).run P w = .ok v w'→(callFunc F #[.int .i64 n]).run P w = .ok (.value v) w') (n:Nat) (w:World) (hn:n≤281474976710656) :
  ∃cs:Array Value,(callFunc F #[.int .i64 n]).run P w = .ok (.value (.slice (some ⟨w.heap.size,0,none⟩) n cs.size)) (w.drew.drew.alloc (.cells cs e))∧n≤cs.size∧(n≤maxLen→cs.size≤maxLen):=by
 obtain ⟨cs,hrun,h1,h2⟩:=Lib.run_makeNoZero (P:=P) w ps t e ht n hn;exact ⟨cs,hF _ _ _ _ hrun,h1,h2⟩
theorem k1v {T e b:Nat} {ao:Option Addr} {cap:Nat} {cs:Array Value} {w W:World} (hbk:w.heap[b]? = some (.cells #[.pointer (some ⟨b,0,none⟩),.slice ao 0 cap] T (0,0))) (hne:T≠e) (h0:0<cs.size) (hm:cs.size≤maxLen)
  (hh:W.heap=((w.setCell ⟨b,1,none⟩ (.slice (some ⟨w.heap.size,0,none⟩) 0 cs.size)).alloc (.cells cs e)).heap) (ho:W.os=w.os) (ht:W.tape=w.tape) (hp:W.output=w.output) :
  ∃bs,h0f T e b [] W bs∧(∀k∈bs,k=b∨w.heap.size≤k)∧But (· = b) w W:=by
 have hlt:b<w.heap.size:=b0k? hbk;have hsz:(w.setCell ⟨b,1,none⟩ (.slice (some ⟨w.heap.size,0,none⟩) 0 cs.size)).heap.size=w.heap.size:=by simp[World.setCell]
 refine ⟨b::(Value.slice (some ⟨w.heap.size,0,none⟩) 0 cs.size).ownBlock.toList,⟨.pointer (some ⟨b,0,none⟩),.slice (some ⟨w.heap.size,0,none⟩) 0 cs.size,.inr rfl,?_,.inr ⟨w.heap.size,cs.size,cs,(0,0),rfl,?_,.inl rfl,Nat.zero_le _,⟨hm,h0⟩,rfl,by simp[b0i]⟩,?_,rfl⟩,fun k hk => ?_,ho,ht,hp,?_,fun k hk hn => ?_⟩
 ·rw[hh,f0p _ _ b (by rw[hsz];exact hlt)];simp[World.setCell,Array.getElem?_modify,hbk]
 ·rw[hh];have:=j0h (w.setCell ⟨b,1,none⟩ (.slice (some ⟨w.heap.size,0,none⟩) 0 cs.size)) (.cells cs e)
  rwa [hsz] at this
 ·simp[Value.ownBlock];omega
 ·rcases List.mem_cons.1 hk with rfl | hk
  ·exact .inl rfl
  ·have:k=w.heap.size:=by simpa [Value.ownBlock,eq_comm] using hk
   exact .inr (by omega)
 ·rw[hh];simp[World.setCell]
 ·rw[hh,f0p _ _ k (by rw[hsz];exact hk)];exact Below.heap_setCell _ _ _ _ (fun e=>hn (by simp[e]))
set_option maxHeartbeats 2000000 in
set_option maxRecDepth 100000 in
theorem hb_grow (L:BldL P ρ) (X:Builder.Extra P ρ) (K:GrowL P ρ) {b cap n:Nat} {ao:Option Addr} (w:World) (hbk:w.heap[b]? = some (.cells #[.pointer (some ⟨b,0,none⟩),.slice ao 0 cap] (ρ.t 72) (0,0))) (hcn:cap<n) (hn:n≤70368744177664) :
  Calls P (ρ.f 241) #[.pointer (some ⟨b,0,none⟩),.int .i64 n] w fun e w'=>e = .returned (.tuple #[])∧∃bs,h0f (ρ.t 72) (ρ.t 5) b [] w' bs∧(∀k∈bs,k=b∨w.heap.size≤k)∧But (· = b) w w':=by
 obtain ⟨cs,hrun,hle,hmax⟩:=K.room (2*cap+n) w.drew (by omega);have e1:((2*cap+n:Nat):Int)=2*(cap:Int)+(n:Int):=by omega
 have e2:IntKind.i64.wrap (IntKind.i64.wrap (2*(cap:Int))+(n:Int))=((2*cap+n:Nat):Int):=by
  rw[IntKind.wrap_i64,IntKind.wrap_i64];omega
 have hcallB:(callFunc (ρ.f 277) #[.int .i64 (IntKind.i64.wrap (IntKind.i64.wrap (2*(cap:Int))+(n:Int)))]).run P w.drew = .ok (.value (.slice (some ⟨w.drew.heap.size,0,none⟩) (2*cap+n) cs.size)) (w.drew.drew.drew.alloc (.cells cs (ρ.t 5))):=by rw[e2];exact hrun
 have hcall:(callFunc (ρ.f 277) #[.int .i64 (2*(cap:Int)+(n:Int))]).run P w.drew = .ok (.value (.slice (some ⟨w.drew.heap.size,0,none⟩) (2*cap+n) cs.size)) (w.drew.drew.drew.alloc (.cells cs (ρ.t 5))):=by rw[←e1];exact hrun
 clear hrun e1 e2;have hlt:b<w.heap.size:=b0k? hbk;have c1:w.drew.cell? ⟨b,1,none⟩=some (.slice ao 0 cap):=by
  have:w.drew.heap[b]? = _:=hbk;rw[Lib.cell_of_heap this];rfl
 have c2:(w.alloc (.cells cs (ρ.t 5))).cell? ⟨b,1,none⟩=some (.slice ao 0 cap):=by
  have:(w.alloc (.cells cs (ρ.t 5))).heap[b]? = _:=(Lib.alloc_old w _ b hlt).trans hbk;rw[Lib.cell_of_heap this];rfl
 have f2:(w.alloc (.cells cs (ρ.t 5))).frozen? ⟨b,1,none⟩=false:=Lib.frozen_of_heap ((Lib.alloc_old w _ b hlt).trans hbk) 1;have hcopy:∀W:World,(Builtin.copy_ #[(ρ.t 37),(ρ.t 37)] (ρ.t 3) #[.slice (some ⟨w.heap.size,0,none⟩) 0 cs.size,.slice ao 0 cap]).run P W = .ok (goInt 0) W :=
  fun W=>run_copy_none W (ρ.t 37) (ρ.t 37) (ρ.t 3) (ρ.t 5) _ _ 0 cs.size 0 cap L.t37 X.sizeByte rfl
 have mixed:=L.mixed;have t72:=L.t72;have a72:=L.a72;have z72:=L.z72;have v72:=L.v72;have u72:=run_underlying L.t72;have t70:=L.t70;have a70:=L.a70;have z70:=L.z70;have v70:=L.v70;have u70:=run_underlying L.t70;have t37:=L.t37;have a37:=L.a37;have z37:=L.z37;have v37:=L.v37;have u37:=run_underlying L.t37;have t3:=L.t3;have a3:=L.a3;have z3:=L.z3;have v3:=L.v3;have u3:=run_underlying L.t3;have t5:=X.t5;have a5:=X.a5;have z5:=X.z5;have v5:=X.v5;have u5:=run_underlying X.t5
 go_enter K.f241,Body.n241_ntmps ρ
 go_wp2
 go_region_o
 all_goals (go_wp2;go_end0;exact ⟨rfl,k1v hbk X.neB5 (by omega) (hmax (by unfold maxLen;omega)) rfl rfl rfl rfl⟩)
set_option maxHeartbeats 4000000 in
set_option maxRecDepth 100000 in
theorem hb_Grow (L:BldL P ρ) (X:Builder.Extra P ρ) (K:GrowL P ρ) {b n:Nat} {bs:List Nat} (w:World) (h:h0f (ρ.t 72) (ρ.t 5) b [] w bs) (hn:n≤70368744177664) :
  Calls P (ρ.f 165) #[.pointer (some ⟨b,0,none⟩),.int .i64 n] w fun e w'=>e = .returned (.tuple #[])∧∃bs',h0f (ρ.t 72) (ρ.t 5) b [] w' bs'∧(∀k∈bs',k∈bs∨w.heap.size≤k)∧But (· ∈ bs) w w':=by
 obtain ⟨p,v,hp,hbk0,hrow0,hne0,rfl⟩:=h;obtain ⟨ao,cap,rfl,hcap⟩:∃ao cap,v = .slice ao 0 cap∧cap≤maxLen:=by
  rcases hrow0 with ⟨rfl,_⟩ | ⟨g,cap,cur,m,rfl,_,_,_,k2,_⟩
  ·exact ⟨none,0,rfl,Nat.zero_le _⟩
  ·exact ⟨_,_,rfl,k2.1⟩
 have mixed:=L.mixed;have t72:=L.t72;have a72:=L.a72;have z72:=L.z72;have v72:=L.v72;have u72:=run_underlying L.t72;have t70:=L.t70;have a70:=L.a70;have z70:=L.z70;have v70:=L.v70;have u70:=run_underlying L.t70;have t37:=L.t37;have a37:=L.a37;have z37:=L.z37;have v37:=L.v37;have u37:=run_underlying L.t37;have t3:=L.t3;have a3:=L.a3;have z3:=L.z3;have v3:=L.v3;have u3:=run_underlying L.t3;have t9:=L.t9;have a9:=L.a9;have z9:=L.z9;have v9:=L.v9;have u9:=run_underlying L.t9;have t4:=L.t4;have a4:=L.a4;have z4:=L.z4;have v4:=L.v4;have u4:=run_underlying L.t4
 have t5:=X.t5;have a5:=X.a5;have z5:=X.z5;have v5:=X.v5;have u5:=run_underlying X.t5;have e240:=L.e240;have e241:=K.e241
 go_enter K.f165,Body.n165_ntmps ρ
 go_wp2_with (go_at_fn (ρ.f 240);refine (L.copy b p _ w hp hbk0).mono ?_)
 rintro e w1 ⟨rfl,hbk,hbut,hsz⟩;have c1:w1.drew.cell? ⟨b,1,none⟩=some (.slice ao 0 cap):=by
  have:w1.drew.heap[b]? = _:=hbk;rw[Lib.cell_of_heap this];rfl
 have cc1:w1.cell? ⟨b,1,none⟩=some (.slice ao 0 cap):=c1;have hbs:∀ {W:World} {bs:List Nat},h0f (ρ.t 72) (ρ.t 5) b [] W bs→(∀k∈bs,k=b∨w1.heap.size≤k)→But (· = b) w1 W→∃bs',h0f (ρ.t 72) (ρ.t 5) b [] W bs'∧(∀k∈bs',k∈b::(Value.slice ao 0 cap).ownBlock.toList∨w.heap.size≤k)∧But (· ∈ b::(Value.slice ao 0 cap).ownBlock.toList) w W:=fun {W bs} h1 h2 h3 =>
  ⟨bs,h1,fun k hk=>(h2 k hk).imp (fun q=>by simp[q]) (fun q=>by omega),h3.os.trans hbut.os,h3.tape.trans hbut.tape,h3.output.trans hbut.output,Nat.le_trans hbut.size h3.size,
   fun k hk hn=>(h3.same k (Nat.lt_of_lt_of_le hk hbut.size) (fun e=>hn (by simp[e]))).trans (hbut.same k hk (fun e=>hn (by simp[e])))⟩
 by_cases hcn:cap<n
 ·have cG:=hb_grow L X K w1.drew hbk hcn hn;have hcI:((cap:Int)<(n:Int)):=by omega
  go_wp2
  go_region_o
  all_goals go_wp2_with (go_at_fn (ρ.f 241);refine cG.mono ?_;rintro e w' ⟨rfl,bs2,h1,h2,h3⟩)
  all_goals (go_end0;exact ⟨rfl,hbs h1 h2 ⟨h3.os,h3.tape,h3.output,h3.size,h3.same⟩⟩)
 ·have hwr:wrap64 (cap:Int)=(cap:Int):=by unfold wrap64;unfold maxLen at hcap;omega
  have hcI:¬(wrap64 (cap:Int)<(n:Int)):=by rw[hwr];omega
  clear hwr;have hrow:RowU (ρ.t 5) (.slice ao 0 cap) [] w1:=hrow0.kept fun g hg=>hbut.same g (hrow0.lt g hg) (fun e=>hne0 (by rw[hg,e]))
  have hB:h0f (ρ.t 72) (ρ.t 5) b [] w1 (b::(Value.slice ao 0 cap).ownBlock.toList):=⟨_,_,.inr rfl,hbk,hrow,hne0,rfl⟩
  go_wp2
  go_region_o
  all_goals go_wp2
  all_goals (go_end0;exact ⟨rfl,_,hB.same (fun _ _=>rfl),fun k hk => .inl hk,hbut.os,hbut.tape,hbut.output,hbut.size,fun k hk hn=>hbut.same k hk (fun e=>hn (by simp[e]))⟩)
end Go.Flat
end
section
set_option linter.unusedVariables false
namespace Go.Flat
open Go.Shelf Go.RowKit Go.Proofs
@[reducible] def z0s (s:Sig) (g:El (tupU s.ps)→Option (El s.out)):Hand:=⟨tupU s.ps,s.out,g⟩
def x0p:List (Nat×Hand)→Nat→Option Hand
 | [],_=>none
 | (m,H)::r,n=>bif Nat.beq m n then some H else x0p r n
theorem b1u {l:List (Nat×Hand)} {n:Nat} {H:Hand} (h:x0p l n=some H):(n,H)∈l:=by
 induction l with
 | nil=>cases h
 | cons p l ih =>
  obtain ⟨m,G⟩:=p;unfold x0p at h;cases hb:Nat.beq m n with
  | true =>
   rw[hb] at h;simp only[cond_true,Option.some.injEq] at h;rw[Nat.eq_of_beq_eq_true hb,h];simp
  | false =>
   rw[hb] at h;exact List.mem_cons_of_mem _ (ih h)
def l0e (P:Program) (G:World→Fz→Prop) (f:FuncId) (s:Sig) (g:El (tupU s.ps)→Option (El s.out)):Prop :=
 ∀x y,g x=some y→∀D W F O vs,G W F→(∀b,F b→b<W.heap.size)→b0s s.ps vs→RdB P D (tupU s.ps) x W F O (cat vs)→O.Nodup→(∀b∈O,¬F b) →
  Calls P f vs.toArray W fun e W'=>∃v F',e = .returned v∧Move W F O W' F'∧Ret P D W O s vs s.out y W' F' v
theorem Ret.cast {P:Program} {D:Nat→Nat} {W:World} {O:List Nat} {s:Sig} {args:List Value} {t u:Ty} (e:t=u) {y:El t} {W':World} {F':Fz} {v:Value} (h:Ret P D W O s args t y W' F' v):Ret P D W O s args u (e ▸ y) W' F' v:=by
 subst e;exact h
theorem k0a {cx:Cx} {f:FuncId} {s:Sig} {g:El (tupU s.ps)→Option (El s.out)} (hs:cx.sig f=some s) (hc:l0e cx.P (GlobOk cx) f s g) :
  ∀s',cx.sig f=some s'→∀(x:El (cx.arg f)) (y:El (cx.out f)),handF cx (z0s s g) f x=some y→∀D W F O vs,GlobOk cx W F→(∀b,F b→b<W.heap.size)→b0s s'.ps vs→RdB cx.P D (cx.arg f) x W F O (cat vs) →
   O.Nodup→(∀b∈O,¬F b)→Calls cx.P f vs.toArray W fun e W'=>∃v F',e = .returned v∧Move W F O W' F'∧Ret cx.P D W O s' vs (cx.out f) y W' F' v:=by
 intro s' hs' x y hy D W F O vs hG hF hf hx hO hOF;rw[hs] at hs';injection hs' with hs';subst hs';unfold handF at hy;cases hx':b0p (a:=cx.arg f) (b:=(z0s s g).a) x with
 | none=>rw[hx'] at hy;cases hy
 | some x' =>
  rw[hx'] at hy;simp only[Option.bind_some] at hy;obtain ⟨ex,rfl⟩:=a0v hx';have ex':cx.arg f=tupU s.ps:=ex;cases hg:g (ex' ▸ x) with
  | none=>rw[hg] at hy;cases hy
  | some z =>
   rw[hg] at hy;simp only[Option.bind_some] at hy;obtain ⟨ey,rfl⟩:=a0v hy;refine (hc _ _ hg D W F O vs hG hF hf (RdB.cast ex' hx) hO hOF).mono ?_;rintro e W' ⟨v,F',h1,h2,h3⟩;exact ⟨v,F',h1,h2,h3.cast ey⟩
theorem But.move {W W':World} {F:Fz} {O:List Nat} (h:But (· ∈ O) W W') (hF:∀b,F b→b<W.heap.size) (hO:∀b∈O,¬F b):Move W F O W' F :=
 ⟨⟨h.os,h.tape,h.output,h.size,fun b hb=>h.same b (hF b hb) (fun k=>hO b k hb),fun _ hb=>hb⟩,fun b hb hn=>h.same b hb hn,fun _ hb => .inl hb⟩
theorem But.of_below {W W':World} (h:Below W.heap.size W W'):But (· ∈ ([]:List Nat)) W W':=⟨h.os,h.tape,h.output,h.size,fun k hk _=>h.block k hk⟩
section
variable {P:Program} {ρ:Ren} {G:World→Fz→Prop}
theorem c1u {D:Nat→Nat} {T e:Nat} {ps:List Ty} {x:El (tupU (.sb T e::ps))} {W:World} {F:Fz} {O:List Nat} {vs:List Value} (hf:b0s (.sb T e::ps) vs) (hx:RdB P D (tupU (.sb T e::ps)) x W F O (cat vs)) :
  ∃b bs O2 us,vs = .pointer (some ⟨b,0,none⟩)::us∧O=bs++O2∧h0f T e b x.1 W bs∧b0s ps us∧RdB P D (tupU ps) x.2 W F O2 (cat us):=by
 match vs,hf with
 | v::us,hf =>
  obtain ⟨O1,O2,rfl,⟨u,h1,b,h2,h3⟩,h4⟩:=hx;have hc:v.cells = #[v]:=oneCell_cells (hf.1.2.1 rfl);rw[e0l hf.1.2.2 0 (by simp[width]),one,hc] at h1;have hv:v=u:=by simpa using h1
  rw[f0l hf.1.2.2] at h4;exact ⟨b,O1,O2,us,by rw[hv,h2],rfl,h3,hf.2,h4⟩
theorem n0f {D:Nat→Nat} {t:Ty} {ps:List Ty} {x:El (tupU (t::ps))} {W:World} {F:Fz} {O:List Nat} {vs:List Value} (hw:width t=1) (ha:agg t=false) (hf:b0s (t::ps) vs) (hx:RdB P D (tupU (t::ps)) x W F O (cat vs)) :
  ∃v us O1 O2,vs=v::us∧O=O1++O2∧RdB P D t x.1 W F O1 (fun j=>if j=0 then some v else none)∧b0s ps us∧RdB P D (tupU ps) x.2 W F O2 (cat us):=by
 match vs,hf with
 | v::us,hf =>
  obtain ⟨O1,O2,rfl,h1,h4⟩:=hx;have hc:v.cells = #[v]:=oneCell_cells (hf.1.2.1 ha);rw[f0l hf.1.2.2] at h4;refine ⟨v,us,O1,O2,rfl,rfl,RdB.congr t (fun j hj => ?_) h1,hf.2,h4⟩;rw[e0l hf.1.2.2 j hj,one,hc];have:j=0:=by omega
  subst this;rfl
noncomputable def d0z (x s:List UInt8):Option (Int×(Bool×List UInt8)):=tif (decide (x.length+s.length≤140737488355328)) (some ((s.length:Int),(false,x++s))) none
theorem f1u (b:Bool) {v:Value} (h1:v.oneCell'=true):formed .err v:=⟨(fun e=>by cases e),(fun _=>h1),by rw[oneCell_cells h1];rfl⟩
theorem u0k (L:BldL P ρ) (X:Builder.Extra P ρ) (f166:P.funcs[ρ.f 166]? = some (Body.n166 ρ)):l0e P G (ρ.f 166) ⟨[.sb (ρ.t 72) (ρ.t 5),.str],[.int .i64,.err],[0]⟩ (fun x=>d0z x.1 x.2.1):=by
 intro x y hy _ W F O vs _ hF hf hx hO hOF;obtain ⟨b,bs,O2,us,rfl,rfl,hb,hf2,hx2⟩:=c1u hf hx;obtain ⟨v,us2,O3,O4,rfl,rfl,⟨rfl,hv⟩,hf3,hx3⟩:=n0f rfl rfl hf2 hx2
 match us2,hf3 with
 | [],_ =>
 have hO4:O4=[]:=hx3;subst hO4;simp only[List.append_nil] at hO hOF ⊢;have hv:v = .string ⟨x.2.1.toArray⟩:=by simpa [Rd,RdP] using hv
 subst hv;unfold d0z at hy;dsimp only at hy;rw[f0t] at hy;split at hy
 case isFalse=>cases hy
 rename_i hcond;simp only[decide_eq_true_eq] at hcond;injection hy with hy;subst hy;refine (u0l L X f166 x.2.1 W hb hcond).mono ?_;rintro e W' ⟨rfl,bs',h1,h2,h3⟩;refine ⟨_,F,rfl,h3.move hF hOF,[.int .i64 x.2.1.length,.nilIface],bs',⟨⟨(fun e=>by cases e),(fun _=>rfl),rfl⟩,f1u false rfl,trivial⟩,rfl,
  ⟨[],bs',rfl,⟨rfl,rfl⟩,[],bs',rfl,⟨rfl,.nilIface,rfl,rfl,fun _=>rfl,fun e=>by cases e⟩,_,rfl,b,rfl,h1⟩,h1.nodup,fun k hk hf => ?_,h2⟩
 rcases h2 k hk with q | q
 ·exact hOF k q hf
 ·have:=hF k hf;omega
theorem j1s (L:Lays.n169 P ρ) (X:Builder.Extra P ρ):l0e P G (ρ.f 169) ⟨[.sb (ρ.t 72) (ρ.t 5)],[.str],[0]⟩ (fun x=>some (x.1,x.1)):=by
 intro x y hy _ W F O vs _ hF hf hx hO hOF;obtain ⟨b,bs,O2,us,rfl,rfl,hb,hf2,hx2⟩:=c1u hf hx
 match us,hf2 with
 | [],_ =>
 have hO4:O2=[]:=hx2;subst hO4;simp only[List.append_nil] at hO hOF ⊢;injection hy with hy;subst hy;refine (j1t L X W hb).mono ?_;rintro e W' ⟨rfl,h2,h3⟩;exact ⟨_,F,rfl,h3.move hF hOF,[_],bs,⟨⟨(fun e=>by cases e),(fun _=>rfl),rfl⟩,trivial⟩,rfl,⟨[],bs,rfl,⟨rfl,rfl⟩,_,rfl,b,rfl,h2⟩,h2.nodup,hOF,fun k hk => .inl hk⟩
theorem hc_Len (L:BldL P ρ) (f170:P.funcs[ρ.f 170]? = some (Body.n170 ρ)):l0e P G (ρ.f 170) ⟨[.sb (ρ.t 72) (ρ.t 5)],[.int .i64],[0]⟩ (fun x=>some ((x.1.length:Int),x.1)):=by
 intro x y hy _ W F O vs _ hF hf hx hO hOF;obtain ⟨b,bs,O2,us,rfl,rfl,hb,hf2,hx2⟩:=c1u hf hx
 match us,hf2 with
 | [],_ =>
 have hO4:O2=[]:=hx2;subst hO4;simp only[List.append_nil] at hO hOF ⊢;injection hy with hy;subst hy;refine (hb_Len L f170 W hb).mono ?_;rintro e W' ⟨rfl,rfl⟩;exact ⟨_,F,rfl,(But.refl (· ∈ bs) _).move hF hOF,[_],bs,⟨⟨(fun e=>by cases e),(fun _=>rfl),rfl⟩,trivial⟩,rfl,⟨[],bs,rfl,⟨rfl,rfl⟩,_,rfl,b,rfl,hb⟩,hb.nodup,hOF,fun k hk => .inl hk⟩
noncomputable def b1v (x:List UInt8) (c:Int):Option (List UInt8):=tif (decide (x.length=0)&&(decide (0≤c)&&decide (c≤70368744177664))) (some []) none
theorem hc_Grow (L:BldL P ρ) (X:Builder.Extra P ρ) (K:GrowL P ρ):l0e P G (ρ.f 165) ⟨[.sb (ρ.t 72) (ρ.t 5),.int .i64],[],[0]⟩ (fun x=>b1v x.1 x.2.1):=by
 intro x y hy _ W F O vs _ hF hf hx hO hOF;obtain ⟨b,bs,O2,us,rfl,rfl,hb,hf2,hx2⟩:=c1u hf hx;obtain ⟨v,us2,O3,O4,rfl,rfl,⟨rfl,hv⟩,hf3,hx3⟩:=n0f rfl rfl hf2 hx2
 match us2,hf3 with
 | [],_ =>
 have hO4:O4=[]:=hx3;subst hO4;simp only[List.append_nil] at hO hOF ⊢;have hv:v = .int .i64 x.2.1:=by simpa [Rd,RdP] using hv
 subst hv;unfold b1v at hy;dsimp only at hy;rw[f0t] at hy;split at hy
 case isFalse=>cases hy
 rename_i hcond;simp only[Bool.and_eq_true,decide_eq_true_eq] at hcond;obtain ⟨hlen,h0,hn⟩:=hcond;injection hy with hy;subst hy;have hx0:x.1=[]:=List.eq_nil_of_length_eq_zero hlen;rw[hx0] at hb;have hc:((x.2.1.toNat:Nat):Int)=x.2.1:=by omega
 have:=hb_Grow L X K (n:=x.2.1.toNat) W hb (by omega);rw[hc] at this;refine this.mono ?_;rintro e W' ⟨rfl,bs',h1,h2,h3⟩;refine ⟨_,F,rfl,h3.move hF hOF,[],bs',trivial,rfl,⟨_,rfl,b,rfl,h1⟩,h1.nodup,fun k hk hf => ?_,h2⟩;rcases h2 k hk with q | q
 ·exact hOF k q hf
 ·have:=hF k hf;omega
end
end Go.Flat
end
section
set_option linter.unusedVariables false
namespace Go.Flat
open Go.Shelf Go.RowKit Go.Proofs
section
variable {P:Program} {G:World→Fz→Prop}
end
end Go.Flat
end
