/-
 The flat reading and its soundness, merged part 4 of 4 (TU, TV, TW, X, Y, Z, HB, HC, HD, HE).
-/
import Derived.Test.YtkajechaanmplaaGreatDoorFlatM3
import Derived.RangeFuncLeaves
import Derived.ProofKit
import Derived.OpenShut
import Derived.IntWalk
import Derived.ChangeArms
import Derived.MakeChecks
import Derived.Shelf.Strings.Builder1
set_option linter.unusedVariables false
set_option linter.unusedSimpArgs false
section
namespace Go.Flat
open Go.RowKit (Below)
section
variable {cx:Cx} {call:Oracle cx} {fx:Hints} {W0:World} {F0:Fz} {O0:List Nat} {nt:Slots}
theorem c1f {rd:Option Nat} {Rf:Type} {ret:St→Option Rf} {c:Code} (hcode:w0s cx call fx W0 F0 O0 nt rd Rf ret c) (hb:b0y nt.nt nt.K c=true) {R:Type} {kr:Rf→Option R} {k:Exit→St→Option R} {r:R} {Q:Exit→Act→World→Prop}
  (hk:∀e st' a' W' F' E',k e st'=some r→StRel cx W0 F0 O0 nt st' a' W' F' E'→Q e a' W')
  (hkr:∀y st' a' W' F' E',kr y=some r→ret st'=some y→StRel cx W0 F0 O0 nt st' a' W' F' E'→Q .ret a' W') :
  ∀(n:Nat) (st:St) (a:Act) (W:World) (F:Fz) (E:EnvM),StRel cx W0 F0 O0 nt st a W F E→spin (fun st k=>evC cx call fx Rf ret c R kr st k) n st k=some r→Code.roundsIn (Rnd rd) 0 cx.P c Q n a W:=by
 intro n;induction n with
 | zero=>intro st a W F E _ h;cases h
 | succ n ih =>
  intro st a W F E hs h;simp only[spin] at h;refine hcode R kr st _ r a W F E _ hb hs h (fun e st' a' W' F' E' h1 h2 => ?_) (fun y st' a' W' F' E' h1 h2 h3=>hkr y st' a' W' F' E' h1 h2 h3);cases e with
  | normal=>exact ih st' a' W' F' E' h2 h1
  | _=>exact hk _ st' a' W' F' E' h1 h2
def e1c (v w:Value):Prop:=v=w∨((∃a,v = .slice a 0 0)∧∃b,w = .slice b 0 0)
theorem c1s {P:Program} {x y:V} (h:sameRow x y=true) {v w:Value} {W:World} {F:Fz} {E:EnvM} (hx:RdV P W F E x v) (hy:RdV P W F E y w):e1c v w:=by
 unfold sameRow at h;split at h
 case h_2=>cases h
 rename_i n k m j;simp only[Bool.and_eq_true] at h;obtain rfl:=Nat.eq_of_beq_eq_true h.1;obtain rfl:=Nat.eq_of_beq_eq_true h.2;obtain ⟨g1,⟨L,g2⟩,g3⟩:=hx.single.1;obtain ⟨_,_,f3⟩:=hy.single.1;have a1:=g3 L g2;have a2:=f3 L g2;cases L with
 | box b=>exact a1.elim
 | tree w bs=>exact a1.elim
 | nil=>exact .inr ⟨a1,a2⟩
 | arr b w' len cap=>exact .inl (a1.trans a2.symm)
theorem c2r {al:List (Nat×Nat)} {st:St} (h:s1f al st=true) {a:Act} {W:World} {F:Fz} {E:EnvM} (hs:StRel cx W0 F0 O0 nt st a W F E):∀p∈al,e1c (a.tmps.getD p.1 undef) (a.tmps.getD p.2 undef):=by
 intro p hp;exact c1s (List.all_eq_true.1 h p hp) (hs.t p.1) (hs.t p.2)
theorem e1b {v w:Value} (hal:e1c v w) {n ver:Nat} {st:St} {W:World} {F:Fz} {E:EnvM} {N:Nat→Prop} (hr:HR cx.P W F E N st.h) {e:Ty} {xs:List (El e)} {fr:Bool} (hn:st.h[n]? = some (ver,some (.arr e xs fr)))
  (hmv:RdV cx.P W F E (.v false [.lall n ver]) w):RdV cx.P W F E (.v false [.lall n ver]) v:=by
 rcases hal with q | ⟨⟨x,q1⟩,⟨y,q2⟩⟩
 ·rw[q];exact hmv
 ·rw[q2] at hmv;rw[q1];obtain ⟨g1,g2,g3⟩:=hmv.single.1;refine RdV.mk1 ⟨g1,g2,fun L hL => ?_⟩ rfl;have:=g3 L hL;cases L with
  | box b=>exact this.elim
  | tree w bs=>exact this.elim
  | nil=>exact ⟨x,rfl⟩
  | arr b w' len cap =>
   exfalso;rcases d0c hr hn with ⟨z1,_⟩ | ⟨b',cap',z1,⟨cs,T,_,_,_,hcap,_⟩,_⟩
   ·rw[hL] at z1;injection z1 with z1;cases z1
   ·rw[hL] at z1;injection z1 with z1;injection z1 with _ _ _ z1;have h0:Value.slice y 0 0 = .slice (some ⟨b,0,none⟩) len cap:=this;injection h0 with _ _ h0;omega
theorem c2p {R:Type} {r:R} {k:St→Option R} {a:Act} {W:World} {F:Fz} {E:EnvM}:∀(al:List (Nat×Nat)) (st:St),s1e al st k=some r→(∀p∈al,e1c (a.tmps.getD p.1 undef) (a.tmps.getD p.2 undef))→StRel cx W0 F0 O0 nt st a W F E →
  ∃st',k st'=some r∧StRel cx W0 F0 O0 nt st' a W F E:=by
 intro al;induction al with
 | nil=>intro st h _ hs;exact ⟨st,h,hs⟩
 | cons p al ih =>
  obtain ⟨s,m⟩:=p;intro st h hal hs;unfold s1e at h;split at h
  case h_2=>cases h
  rename_i n ver hm;split at h
  case h_2=>cases h
  rename_i ver' e xs fr hn;split at h
  case isFalse=>cases h
  rename_i hver;subst hver;refine ih _ h (fun p hp=>hal p (by simp[hp])) ⟨hs.hr,hs.hF,fun s' => ?_,hs.later,hs.frame,hs.own,hs.fz,hs.size,hs.keep,hs.defers,hs.env⟩;simp only[getT];cases hbe:Nat.beq s s' with
  | false=>exact hs.t s'
  | true =>
   have:=Nat.eq_of_beq_eq_true hbe;subst this;have hmv:=hs.t m;rw[hm] at hmv;simp only[cond_true];exact e1b (hal (s,m) (by simp)) hs.hr hn hmv
def c2z (W:World) (v w:Value) (off:Nat):Prop:=∃b u,w = .pointer (some ⟨b,0,none⟩)∧W.cell? ⟨b,off,none⟩=some u∧e1c v u
theorem d1x {P:Program} {W:World} {F:Fz} {E:EnvM} {N:Nat→Prop} {h:Heap} (hr:HR P W F E N h) {off:Nat} {x:V} {c:Cell} (hx:a1g h off x=some c) {w:Value} (hw:RdV P W F E x w) :
  ∃b u,w = .pointer (some ⟨b,0,none⟩)∧W.cell? ⟨b,off,none⟩=some u∧RdV P W F E (.v false [c]) u:=by
 unfold a1g at hx;split at hx
 case h_2=>cases hx
 rename_i n ver;split at hx
 case h_2=>cases hx
 rename_i ver' t cs fr hn;split at hx
 case isFalse=>cases hx
 rename_i hver;subst hver;obtain ⟨b,arr,T,k1,k2,k3,k4,_⟩:=v0w hr hn;have hp:w = .pointer (some ⟨b,0,none⟩):=hw.single.1.2.2 _ k1;obtain ⟨hlt,_⟩:=List.getElem?_eq_some_iff.1 hx;have hlt':off<arr.toList.length:=by rw[←k3.1];exact hlt
 have hu:arr.toList[off]? = some arr.toList[off]:=List.getElem?_eq_getElem hlt';obtain ⟨r1,r2⟩:=k3.2 off c _ hx hu;refine ⟨b,arr.toList[off],hp,?_,RdV.mk1 r1 r2⟩;have:=cell_of_row W b off arr T (0,0) k2;rw[this]
 first
 | exact hu
 | (rw[←hu];simp)
theorem falB_rd {al:List (Nat×Nat×Nat)} {st:St} (h:falB al st=true) {a:Act} {W:World} {F:Fz} {E:EnvM} (hs:StRel cx W0 F0 O0 nt st a W F E):∀p∈al,c2z W (a.tmps.getD p.1 undef) (a.tmps.getD p.2.1 undef) p.2.2:=by
 intro p hp;have h:=List.all_eq_true.1 h p hp;split at h
 case h_2=>cases h
 rename_i c hc;obtain ⟨b,u,h1,h2,h3⟩:=d1x hs.hr hc (hs.t p.2.1);exact ⟨b,u,h1,h2,c1s h (hs.t p.1) h3⟩
theorem falK_rd {R:Type} {r:R} {k:St→Option R} {a:Act} {W:World} {F:Fz} {E:EnvM}:∀(al:List (Nat×Nat×Nat)) (st:St),falK al st k=some r→(∀p∈al,c2z W (a.tmps.getD p.1 undef) (a.tmps.getD p.2.1 undef) p.2.2)→StRel cx W0 F0 O0 nt st a W F E →
  ∃st',k st'=some r∧StRel cx W0 F0 O0 nt st' a W F E:=by
 intro al;induction al with
 | nil=>intro st h _ hs;exact ⟨st,h,hs⟩
 | cons p al ih =>
  obtain ⟨s,m,off⟩:=p;intro st h hal hs;unfold falK at h;split at h
  case h_2=>cases h
  rename_i n ver hm;split at h
  case h_2=>cases h
  rename_i ver' e xs fr hn;split at h
  case isFalse=>cases h
  rename_i hver;subst hver;refine ih _ h (fun p hp=>hal p (by simp[hp])) ⟨hs.hr,hs.hF,fun s' => ?_,hs.later,hs.frame,hs.own,hs.fz,hs.size,hs.keep,hs.defers,hs.env⟩;simp only[getT];cases hbe:Nat.beq s s' with
  | false=>exact hs.t s'
  | true =>
   have:=Nat.eq_of_beq_eq_true hbe;subst this;simp only[cond_true];obtain ⟨b,u,q1,q2,q3⟩:=d1x hs.hr hm (hs.t m);obtain ⟨b',u',p1,p2,p3⟩:=hal (s,m,off) (by simp);simp only at p1 p2 p3;rw[q1] at p1;injection p1 with p1;injection p1 with p1;injection p1 with p1 _ _;subst p1;rw[q2] at p2;injection p2 with p2;subst p2;exact e1b p3 hs.hr hn q3
def m1b (a:Act) (p:Nat×Option Nat×List Nat):Prop:=match p.2.1 with
 | some f=>a.tmps.getD p.1 undef = .func (.func f) #[] (p.2.2.map fun m=>a.tmps.getD m undef).toArray
 | none=>a.tmps.getD p.1 undef=a.tmps.getD (p.2.2.headD 0) undef
theorem d1w {ms:List Nat} {st:St} {l:List (Nat×Nat)} (h:p1s st.t ms=some l) {a:Act} {W:World} {F:Fz} {E:EnvM} (hs:StRel cx W0 F0 O0 nt st a W F E) :
  ∃bs:List Nat,(ms.map fun m=>a.tmps.getD m undef)=bs.map (fun b=>Value.pointer (some ⟨b,0,none⟩))∧bs.length=l.length∧∀(i:Nat) p b,l[i]? = some p→bs[i]? = some b→p.2≤E.top p.1∧E.m p.1 p.2=some (.box b) :=
 d1y (P:=cx.P) (W:=W) (F:=F) (E:=E) _ (ms.map fun m=>a.tmps.getD m undef) l h (by simp) (fun i p u hp hu=>by
  rw[List.getElem?_map] at hp hu;cases hx:ms[i]? with
  | none=>rw[hx] at hp;cases hp
  | some y =>
   rw[hx] at hp hu;simp only[Option.map_some,Option.some.injEq] at hp hu;subst hp;subst hu
   exact hs.t y)
theorem b2n {al:List (Nat×Option Nat×List Nat)} {st:St} (h:clsB al st=true) {a:Act} {W:World} {F:Fz} {E:EnvM} (hs:StRel cx W0 F0 O0 nt st a W F E):∀p∈al,m1b a p:=by
 intro p hp;have h:=List.all_eq_true.1 h p hp;obtain ⟨s,of,ms⟩:=p;cases of with
 | none =>
  dsimp only at h;have h1:=hs.t s;have h2:=hs.t (ms.headD 0);cases q1:slOf (getT st.t s) with
  | none=>rw[q1] at h;cases h
  | some u =>
   cases q2:slOf (getT st.t (ms.headD 0)) with
   | none=>rw[q1,q2] at h;cases h
   | some w =>
    rw[q1,q2] at h;rw[o0f q1] at h1;rw[o0f q2] at h2;simp only[sameSl,Bool.and_eq_true] at h;have e1:=Nat.eq_of_beq_eq_true h.1;have e2:=Nat.eq_of_beq_eq_true h.2;obtain ⟨_,⟨L,hL⟩,g1⟩:=h1.single.1;obtain ⟨_,_,g2⟩:=h2.single.1;have a1:=g1 L hL;have a2:=g2 L (by rw[←e1,←e2];exact hL);show a.tmps.getD s undef=a.tmps.getD (ms.headD 0) undef;cases L with
    | tree v bs=>exact Eq.trans a1 (Eq.symm a2)
    | box b=>exact a1.elim
    | nil=>exact a1.elim
    | arr b w len cap=>exact a1.elim
 | some f =>
 dsimp only at h;split at h
 case h_2=>cases h
 rename_i l hl;obtain ⟨bs,k1,k2,k3⟩:=d1w hl hs;have hv:=hs.t s;unfold x1y at h;split at h
 case h_2=>cases h
 rename_i g l' hg;rw[hg] at hv;simp only[Bool.and_eq_true,decide_eq_true_eq] at h;have hf:=Nat.eq_of_beq_eq_true h.1;obtain ⟨-,rfl⟩:=h;obtain ⟨bs',e1,e2,e3⟩:=hv.single.1;have hbs:bs'=bs:=by
  apply List.ext_getElem (by omega);intro i h1 h2;have hl':i<l.length:=by omega
  have a1:=(e3 i _ _ (List.getElem?_eq_getElem hl') (List.getElem?_eq_getElem h1)).2;have a2:=(k3 i _ _ (List.getElem?_eq_getElem hl') (List.getElem?_eq_getElem h2)).2;rw[a1] at a2;injection a2 with a2;injection a2
 unfold m1b;rw[e1,k1,hbs,hf]
theorem b2m {R:Type} {r:R} {k:St→Option R} {a:Act} {W:World} {F:Fz} {E:EnvM}:∀(al:List (Nat×Option Nat×List Nat)) (st:St),clsK al st k=some r→(∀p∈al,m1b a p)→StRel cx W0 F0 O0 nt st a W F E →
  ∃st',k st'=some r∧StRel cx W0 F0 O0 nt st' a W F E:=by
 intro al;induction al with
 | nil=>intro st h _ hs;exact ⟨st,h,hs⟩
 | cons p al ih =>
  obtain ⟨s,of,ms⟩:=p;intro st h hal hs;cases of with
  | none =>
   simp only[clsK] at h;split at h
   case h_2=>cases h
   rename_i u hu;refine ih _ h (fun p hp=>hal p (by simp[hp])) ⟨hs.hr,hs.hF,fun s' => ?_,hs.later,hs.frame,hs.own,hs.fz,hs.size,hs.keep,hs.defers,hs.env⟩;simp only[getT];cases hbe:Nat.beq s s' with
   | false=>exact hs.t s'
   | true =>
    have:=Nat.eq_of_beq_eq_true hbe;subst this;have hv:a.tmps.getD s undef=a.tmps.getD (ms.headD 0) undef:=hal (s,none,ms) (by simp);have hm:=hs.t (ms.headD 0);rw[o0f hu] at hm;simp only[cond_true];rw[hv];exact hm
  | some f =>
  simp only[clsK] at h;split at h
  case h_2=>cases h
  rename_i l hl;obtain ⟨bs,k1,k2,k3⟩:=d1w hl hs;refine ih _ h (fun p hp=>hal p (by simp[hp])) ⟨hs.hr,hs.hF,fun s' => ?_,hs.later,hs.frame,hs.own,hs.fz,hs.size,hs.keep,hs.defers,hs.env⟩;simp only[getT];cases hbe:Nat.beq s s' with
  | false=>exact hs.t s'
  | true =>
   have:=Nat.eq_of_beq_eq_true hbe;subst this;have hv:a.tmps.getD s undef = .func (.func f) #[] (ms.map fun m=>a.tmps.getD m undef).toArray:=hal (s,some f,ms) (by simp);simp only[cond_true];rw[hv];exact RdV.mk1 ⟨bs,by rw[k1],k2,k3⟩ rfl
def AliasP (hh:LoopH) (a:Act) (W:World):Prop:=(∀p∈hh.alias,e1c (a.tmps.getD p.1 undef) (a.tmps.getD p.2 undef))∧(∀p∈hh.fal,c2z W (a.tmps.getD p.1 undef) (a.tmps.getD p.2.1 undef) p.2.2)∧∀p∈hh.cls,m1b a p
theorem l1z {hh:LoopH} {st:St} (h:(s1f hh.alias st&&(falB hh.fal st&&clsB hh.cls st))=true) {a:Act} {W:World} {F:Fz} {E:EnvM} (hs:StRel cx W0 F0 O0 nt st a W F E):AliasP hh a W:=by
 rw[Bool.and_eq_true,Bool.and_eq_true] at h;exact ⟨c2r h.1 hs,falB_rd h.2.1 hs,b2n h.2.2 hs⟩
theorem u1r (hc:CallSound cx call W0 F0) (hI:∀E,nt.I E) {hh:LoopH} {rd:Option Nat} {Rf:Type} {ret:St→Option Rf} {c:Code} (hcode:w0s cx call fx W0 F0 O0 nt rd Rf ret c) (hb:b0y nt.nt nt.K c=true) {s:El (b0i hh.outs) ⊕ Rf} {Q:Exit→Act→World→Prop}
  (hl:∀y a' W' F' O,s = .inl y→KeepRel cx W0 F0 O0 nt hh.outs y a' W' F' O→(∀p∈hh.cls,m1b a' p)→Q (.exit hh.exit) a' W')
  (hr:∀y st' a' W' F' E',s = .inr y→ret st'=some y→StRel cx W0 F0 O0 nt st' a' W' F' E'→Q .ret a' W') :
  ∀(n:Nat) (x:El (b0i hh.live)) (a:Act) (W:World) (F:Fz) (O:List Nat),KeepRel cx W0 F0 O0 nt hh.live x a W F O→AliasP hh a W →
   u1s cx call fx hh ret (fun st k=>evC cx call fx Rf ret c _ (fun r=>some (.inr r)) st k) n x=some s→Code.roundsIn (Rnd rd) 0 cx.P c Q n a W:=by
 intro n;induction n with
 | zero=>intro x a W F O _ _ h;cases h
 | succ n ih =>
  intro x a W F O hs hal h;simp only[u1s] at h;obtain ⟨st,E,h,hs⟩:=r0f h hI hs;obtain ⟨st,h,hs⟩:=c2p _ _ h hal.1 hs;obtain ⟨st,h,hs⟩:=falK_rd _ _ h hal.2.1 hs;obtain ⟨st,h,hs⟩:=b2m _ _ h hal.2.2 hs;refine hcode _ _ st _ s a W F E _ hb hs h (fun e st' a' W' F' E' h1 h2 => ?_) (fun y st' a' W' F' E' h1 h2 h3 => ?_)
  ·cases e with
   | normal =>
    obtain ⟨hal',h1⟩:=a0u h1;have hal':=l1z hal' h2;cases hp:l0k cx call st' hh.live with
    | none=>rw[hp] at h1;cases h1
    | some y =>
     rw[hp] at h1;simp only[Option.bind_some] at h1;obtain ⟨F2,O2,hk⟩:=z0f hc h2 hp;exact ih y a' W' F2 O2 hk hal' h1
   | exit id =>
    dsimp only at h1;split at h1
    case isFalse=>cases h1
    rename_i hid;subst hid;obtain ⟨hcl,h1⟩:=a0u h1;simp only[Option.map_eq_some_iff] at h1;obtain ⟨y,hp,hy⟩:=h1;obtain ⟨F2,O2,hk⟩:=z0f hc h2 hp;exact hl y a' W' F2 O2 hy.symm hk (b2n hcl h2)
   | ret =>
    simp only[Option.map_eq_some_iff] at h1;obtain ⟨y,hp,hy⟩:=h1;exact hr y st' a' W' F' E' hy.symm hp h2
   | goto l=>cases h1
   | panic ch=>cases h1
   | outgrown=>cases h1
  ·injection h1 with h1;exact hr y st' a' W' F' E' h1.symm h2 h3
theorem StRel.drop {st:St} {a:Act} {W:World} {F:Fz} {E:EnvM} {n ver:Nat} {B:Blk} (hs:StRel cx W0 F0 O0 nt st a W F E) (hn:st.h[n]? = some (ver,some B)) :
  StRel cx W0 F0 O0 nt { st with h:=st.h.set n (ver,none) } a W F E∧∀b,a0p (st.h.set n (ver,none)) E b→∃m,m≠n∧atName st.h E m b:=by
 have hlv:∀b,a0p (st.h.set n (ver,none)) E b→∃m,m≠n∧atName st.h E m b:=by
  rintro b ⟨m,v,B',L,h1,h2,h3⟩;by_cases e:m=n
  ·subst e;rw[List.getElem?_set] at h1;simp only[if_true] at h1;split at h1
   ·injection h1 with h1;injection h1 with _ h1;cases h1
   ·cases h1
  ·rw[List.getElem?_set_ne (fun h=>e h.symm)] at h1;exact ⟨m,e,v,B',L,h1,h2,h3⟩
 have live:∀b,a0p (st.h.set n (ver,none)) E b→a0p st.h E b:=fun b hb=>by
  obtain ⟨m,_,h⟩:=hlv b hb;exact ⟨m,h⟩
 exact ⟨⟨hs.hr.put trivial (EnvLe.refl E) (hs.hr.top n ver _ trivial hn).symm (fun _ _=>rfl) (Later.refl W F) (fun b _=>⟨rfl,fun h=>h⟩) (fun B hB=>by cases hB),hs.hF,hs.t,hs.later,hs.frame,fun b hb=>hs.own b (live b hb),hs.fz,hs.size,hs.keep,
  ⟨hs.defers.1,hs.defers.2.turn fun D _ _ h1 h2 _=>⟨rfl,h1,fun h=>h2 (live D h)⟩⟩,hs.env⟩,hlv⟩
theorem evC_all (tab:e0u cx) (hfn:FnOk cx call) (hin:InOk cx call) (hm:cx.P.follows .mixedOrders=true) {Rf:Type} {ret:St→Option Rf}:∀(c:Code) (W0:World) (F0:Fz) (O0:List Nat) (nt:Slots) (rd:Option Nat),
  CallSound cx call W0 F0→(fx.loops=[]∨(∀E,nt.I E)∨n0e c=true)→((fx.loops=[]∧rd=none)∨(nt.md=true∧rd=none)∨noRF c=true)→(fx.thaw=[]∨nt.md=false)→w0s cx call fx W0 F0 O0 nt rd Rf ret c:=by
 intro c;induction c with
 | skip=>intro W0 F0 O0 nt rd hc hI hR hT R kr st k r a W F E Q _ hs h hk _;exact wpIn_skip (hk _ st a W F E h hs)
 | ret=>intro W0 F0 O0 nt rd hc hI hR hT R kr st k r a W F E Q _ hs h hk _;exact wpIn_ret (hk _ st a W F E h hs)
 | exit id=>intro W0 F0 O0 nt rd hc hI hR hT R kr st k r a W F E Q _ hs h hk _;exact wpIn_exit (hk _ st a W F E h hs)
 | region id ops draw =>
  intro W0 F0 O0 nt rd hc hI hR hT R kr st k r a W F E Q hb hs h hk _;exact b1p hc tab hfn hin hm hb hs h fun st' a' W' F' E' h1 h2=>hk _ st' a' W' F' E' h1 h2
 | seq x y ihx ihy =>
  intro W0 F0 O0 nt rd hc hI hR hT R kr st k r a W F E Q hb hs h hk hkr;simp only[noRF,Bool.and_eq_true] at hR;simp only[n0e,Bool.and_eq_true] at hI;simp only[b0y,Bool.and_eq_true] at hb;have ihx0:=fun W0 F0 O0 nt=>ihx W0 F0 O0 nt rd
  have ihx:=ihx W0 F0 O0 nt rd hc (hI.imp id fun q=>q.imp id (·.1)) (hR.imp id fun q=>q.imp id (·.1)) hT;have ihy:=ihy W0 F0 O0 nt rd hc (hI.imp id fun q=>q.imp id (·.2)) (hR.imp id fun q=>q.imp id (·.2)) hT;simp only[evC] at h;cases hth:q1g fx x y with
  | false =>
   refine wpIn_seq (ihx R kr st _ r a W F E _ hb.1 hs h (fun e st' a' W' F' E' h1 h2 => ?_) (fun z st' a' W' F' E' h1 h2 h3=>hkr z st' a' W' F' E' h1 h2 h3));cases e with
   | normal =>
    simp only[hth,cond_false] at h1;exact ihy R kr st' k r a' W' F' E' Q hb.2 h2 h1 hk hkr
   | _=>exact hk _ st' a' W' F' E' h1 h2
  | true =>
   obtain ⟨hne,hfl⟩:=m1q hth;have hmd:=hT.resolve_left hne;have hK:∀i∈nt.K,i<nt.nt→i ∉ v0n x:=fun i hi _=>below_no x hfl hb.1 i hi
   have hb1:b0y (s1u nt a E (v0n x)).nt (s1u nt a E (v0n x)).K x=true:=v1z x hfl hb.1 fun d hd hm=>by
    have:=(List.mem_filter.1 hm).2;rw[b0u.2 hd] at this;cases this
   refine wpIn_seq (ihx0 W F (u1t st.h E W.heap.size) (s1u nt a E (v0n x)) (hc.later hs.later) (.inr (.inr hfl)) (.inr (.inr (v1f x hfl))) (.inr rfl) R kr st _ r a W F E _ hb1 (hs.into hmd _) h
    (fun e st' a' W' F' E' h1 h2 => ?_) (fun z st' a' W' F' E' h1 h2 h3=>hkr z st' a' W' F' E' h1 h2 (hs.outOf h3 hK)))
   cases e with
   | normal =>
    simp only[hth,cond_true] at h1;exact ihy R kr _ k r a' W' F E' Q hb.2 (hs.thaw h2 hK) h1 hk hkr
   | _=>exact hk _ st' a' W' F' E' h1 (hs.outOf h2 hK)
 | cond z x y ihx ihy =>
  intro W0 F0 O0 nt rd hc hI hR hT R kr st k r a W F E Q hb hs h hk hkr;simp only[noRF,Bool.and_eq_true] at hR;simp only[n0e,Bool.and_eq_true] at hI;have ihx:=ihx W0 F0 O0 nt rd hc (hI.imp id fun q=>q.imp id (·.1)) (hR.imp id fun q=>q.imp id (·.1)) hT;have ihy:=ihy W0 F0 O0 nt rd hc (hI.imp id fun q=>q.imp id (·.2)) (hR.imp id fun q=>q.imp id (·.2)) hT;simp only[b0y,Bool.and_eq_true] at hb;simp only[evC] at h;split at h
  case h_3=>cases h
  case h_2 =>
   rename_i hz;have hv:=o0o (hc.glob.later hs.later) hs.t z;rw[hz] at hv;obtain ⟨b,hv⟩:∃b,_=Value.bool b:=hv.single.1;obtain ⟨h1,h2⟩:=c2a h;cases b with
   | true=>exact wpIn_cond_true hv (ihx R kr st k r a W F E Q hb.1 hs h1 hk hkr)
   | false=>exact wpIn_cond_false hv (ihy R kr st k r a W F E Q hb.2 hs h2 hk hkr)
  rename_i b hz;have hv:=o0o (hc.glob.later hs.later) hs.t z;rw[hz] at hv;have hv:=r0l hv;cases b with
  | true=>exact wpIn_cond_true hv (ihx R kr st k r a W F E Q hb.1 hs h hk hkr)
  | false=>exact wpIn_cond_false hv (ihy R kr st k r a W F E Q hb.2 hs h hk hkr)
 | label l=>intro W0 F0 O0 nt rd hc hI hR hT R kr st k r a W F E Q _ hs h hk _;exact wpIn_label (hk _ st a W F E h hs)
 | scope x ih =>
  intro W0 F0 O0 nt rd hc hI hR hT R kr st k r a W F E Q hb hs h hk hkr;have hI:fx.loops=[]∨∀E,nt.I E:=hI.imp id fun q=>q.elim id fun q=>(by cases q)
  have hrd:rd=none:=by
   rcases hR with q | q | q
   ·exact q.2
   ·exact q.2
   ·cases q
  subst hrd;have hR:(fx.loops=[]∧(none:Option Nat)=none)∨(nt.md=true∧(none:Option Nat)=none)∨noRF x=true:=by
   rcases hR with q | q | q
   ·exact .inl q
   ·exact .inr (.inl q)
   ·cases q
  have ih:=ih W0 F0 O0 nt none hc (hI.imp id .inl) hR hT;simp only[evC] at h;refine wpIn_wide.2 (wp_scope_straight (wpIn_wide.1 (ih R kr st _ r a W F E _ hb hs h (fun e st' a' W' F' E' h1 h2 => ?_) (fun z st' a' W' F' E' h1 h2 h3=>hkr z st' a' W' F' E' h1 h2 h3))));cases e with
  | goto l=>cases h1
  | _=>exact hk _ st' a' W' F' E' h1 h2
 | block id x ih =>
  intro W0 F0 O0 nt rd hc hI hR hT R kr st k r a W F E Q hb hs h hk hkr;have ih:=ih W0 F0 O0 nt rd hc hI hR hT;refine wpIn_block (ih R kr st _ r a W F E _ hb hs h (fun e st' a' W' F' E' h1 h2 => ?_) (fun z st' a' W' F' E' h1 h2 h3=>hkr z st' a' W' F' E' h1 h2 h3));cases e with
  | exit id' =>
   dsimp only at h1;simp only[Exit.inBlock];split at h1
   ·rename_i he;rw[if_pos he];exact hk _ st' a' W' F' E' h1 h2
   ·rename_i he;rw[if_neg he];exact hk _ st' a' W' F' E' h1 h2
  | _=>exact hk _ st' a' W' F' E' h1 h2
 | loop x ih =>
  intro W0 F0 O0 nt rd hc hI hR hT R kr st k r a W F E Q hb hs h hk hkr;have hI:fx.loops=[]∨∀E,nt.I E:=hI.imp id fun q=>q.elim id fun q=>(by cases q)
  have ih:=ih W0 F0 O0 nt rd hc (hI.imp id .inl) hR hT;simp only[evC] at h;split at h
  ·exact wpIn_loop_rounds a0b (c1f ih hb hk hkr a0b st a W F E hs h)
  ·rename_i hh hhint;have hI:∀E,nt.I E:=by
    rcases hI with q | q
    ·exfalso;unfold hintOf at hhint;rw[q] at hhint;split at hhint<;>simp at hhint
    ·exact q
   cases hof:ownfB hh.ownf st with
   | false =>
    rw[hof] at h;exact wpIn_loop_rounds 1 (c1f ih hb hk hkr 1 st a W F E hs h)
   | true =>
   rw[hof] at h;obtain ⟨hal,h⟩:=a0u h;have hal:=l1z hal hs;cases hp:l0k cx call st hh.live with
   | none=>rw[hp] at h;cases h
   | some y =>
    rw[hp] at h;simp only[Option.bind_some] at h;cases hl:u1s cx call fx hh ret (fun st k=>evC cx call fx Rf ret x _ (fun r=>some (.inr r)) st k) a0b y with
    | none=>rw[hl] at h;cases h
    | some s =>
     rw[hl] at h;simp only[Option.bind_some] at h;obtain ⟨F2,O2,hkp⟩:=z0f hc hs hp;refine wpIn_loop_rounds a0b (u1r hc hI ih hb (s:=s) (fun z a' W' F' O he hz hcl => ?_) (fun z st' a' W' F' E' he h1 h2 => ?_) a0b y a W F2 O2 hkp hal hl)
     ·subst he;obtain ⟨st',E',h1,h2⟩:=r0f h hI hz;obtain ⟨st',h1,h2⟩:=b2m _ _ h1 hcl h2;have h1:=w0g h1;exact hk _ st' a' W' F' E' h1 h2
     ·subst he;exact hkr z st' a' W' F' E' h h1 h2
 | rangeFunc g ps x y ihx ihy =>
  intro W0 F0 O0 nt rd hc hI hR hT R kr st k r a W F E Q hb hs h hk hkr;simp only[evC] at h;split at h
  case h_2=>cases h
  rename_i hh n v0 hhint hop;have hne:fx.loops≠[]:=by
   intro q;unfold hintOf at hhint;rw[q] at hhint;split at hhint<;>simp at hhint
  have hI':∀E,nt.I E:=(hI.resolve_left hne).elim id fun q=>(by cases q)
  obtain ⟨hmd,rfl⟩:nt.md=true∧rd=none:=by
   rcases hR with q | q | q
   ·exact absurd q.1 hne
   ·exact q
   ·cases q
  have hT0:fx.thaw=[]:=hT.elim id fun q=>by rw[hmd] at q;cases q
  split at h
  case h_2=>cases h
  rename_i ver n' base top e xs hn;split at h
  case isFalse=>cases h
  rename_i hcond;obtain ⟨rfl,hb1,hb2,rfl⟩:=hcond;obtain ⟨hrb,h⟩:=a0u h;simp only[rangeB,Bool.and_eq_true] at hrb;obtain ⟨p1,p2,p3,p4,p5⟩:=hrb;simp only[b0y,Bool.and_eq_true] at hb;obtain ⟨c1,c2,c3⟩:=hb;obtain ⟨_,L,hL,w,bs,rfl,g1,g2,g3,g4,g5⟩:=hs.hr.blk n _ _ hn;obtain ⟨⟨_,hseq⟩,s2,s3⟩:=g5 rfl;have hv:=o0o (hc.glob.later hs.later) hs.t g;rw[hop] at hv;obtain ⟨bs',hbs'⟩:=g3 v0 hb1 hb2;have hvw:a.eval g=w:=hv.single.1.2.2 _ hbs';have hat:∀b∈bs,atName st.h E n b:=fun b hb=>⟨_,_,_,hn,hL,hb⟩
  obtain ⟨hs0,hlv⟩:=hs.drop hn;cases hp:l0k cx call { st with h:=st.h.set n (top,none) } hh.live with
  | none=>rw[hp] at h;cases h
  | some u =>
   rw[hp] at h;simp only[Option.bind_some] at h;obtain ⟨F2,O2,hkp,hO2,hF2,hl2⟩:=u0y hc hs0 hp;have apart:∀b∈bs,¬a0p (st.h.set n (top,none)) E b:=fun b hb hl=>by
    obtain ⟨m,hm,hat'⟩:=hlv b hl;exact hm (b0l hs.hr hat' (hat b hb))
   have live:∀b,a0p (st.h.set n (top,none)) E b→a0p st.h E b:=fun b hl=>by
    obtain ⟨m,_,hat'⟩:=hlv b hl;exact ⟨m,hat'⟩
   cases hf:seqF cx call fx hh.live e ps.toList (fun st k=>evC cx call fx Rf ret x _ (fun _=>none) st (onN fun st=>evC cx call fx Rf ret y _ (fun _=>none) st (onN k))) xs u with
   | none=>rw[hf] at h;cases h
   | some z =>
    rw[hf] at h;simp only[Option.bind_some] at h;refine o1b (fun l W0 F0 O0 nt hc hI=>ihx W0 F0 O0 nt (some l) hc (.inr (.inl hI)) (.inr (.inr p4)) (.inl hT0)) (fun l W0 F0 O0 nt hc hI=>ihy W0 F0 O0 nt (some l) hc (.inr (.inl hI)) (.inr (.inr p5)) (.inl hT0)) hc hI' hmd ?_ (d1z _ p4 c2 p2) (d1z _ p5 c3 p3) hkp
     (hseq.later hl2 fun _ _=>rfl) hvw (fun b hb h=>apart b hb (hO2 b h)) (fun b hb h=>(hF2 b h).elim (s3 b hb) (apart b hb)) (fun b hb=>hs.own b ⟨n,hat b hb⟩) ?_ hf ?_
    ·intro p hpm;have k1:=List.all_eq_true.1 c1 p hpm;have k2:=List.all_eq_true.1 p1 p hpm;simp only[Bool.and_eq_true,Bool.not_eq_true'] at k1 k2;refine ⟨by simpa [Nat.blt_eq] using k1.1,fun h => ?_,fun h => ?_⟩
     ·rw[b0u.2 h] at k1;exact absurd k1.2 (by simp)
     ·rw[b0u.2 h] at k2;cases k2
    ·exact hs.defers.2.turn fun D _ _ d1 d2 _=>⟨rfl,fun h=>(hF2 D h).elim d1 fun h=>d2 (live D h),fun h=>h.elim (fun h=>d2 (live D (hO2 D h))) fun h=>d2 ⟨n,hat D h⟩⟩
    ·intro a' W' F' O' hz;obtain ⟨st',E',h1,h2⟩:=r0f h hI' hz;exact hk _ st' a' W' F' E' (w0g h1) h2
 | _=>intro W0 F0 O0 nt rd hc hI hR hT R kr st k r a W F E Q _ _ h;cases h
theorem l1h (hc:CallSound cx call W0 F0) (tab:e0u cx) (hfn:FnOk cx call) (hin:InOk cx call) (hI:fx.loops=[]∨∀E,nt.I E) (hm:cx.P.follows .mixedOrders=true) {rd:Option Nat} {Rf:Type} {ret:St→Option Rf} (c:Code) (hR:(fx.loops=[]∧rd=none)∨(nt.md=true∧rd=none)∨noRF c=true) (hT:fx.thaw=[]∨nt.md=false):w0s cx call fx W0 F0 O0 nt rd Rf ret c :=
 evC_all tab hfn hin hm c W0 F0 O0 nt rd hc (hI.imp id .inl) hR hT
end
end Go.Flat
end
section
namespace Go.Flat
open Go.RowKit (Below)
theorem b0t.get:∀ {ts:List Ty} {vs:List Value},b0t ts vs→∀ {i:Nat} {t:Ty},ts[i]? = some t→∃v,vs[i]? = some v∧formed t v:=by
 intro ts;induction ts with
 | nil=>intro vs _ i t h;simp at h
 | cons t ts ih =>
  intro vs h i u hu;cases vs with
  | nil=>exact h.elim
  | cons v vs =>
   cases i with
   | zero=>simp at hu;subst hu;exact ⟨v,rfl,h.1⟩
   | succ i=>simpa using ih h.2 (by simpa using hu)
section
variable {cx:Cx} {call:Oracle cx} {fx:Hints} {W0 W W':World} {F0 F F':Fz} {O0:List Nat} {E E':EnvM} {h:Heap} {a:Act} {R:Type} {nt:Slots} {st:St}
def resF (tmps : Array Value) : ResultVar → Sem Value := fun r => match r with
    | .tmp t=>pure (tmps.getD t undef)
    | .cell a t=>do loadVar t (←asAddr (tmps.getD a undef))
theorem t1q (tab:e0u cx) (hr:HR cx.P W F E (fun _=>True) h) {t:List (Nat×V)} (ht:∀s,RdV cx.P W F E (getT t s) (a.tmps.getD s undef)):∀(rvs:List ResultVar) (ts:List Ty) (cs:List Cell),e0c cx h t rvs ts=some cs →
  ∃ws,b0t ts ws∧a0f cx.P W F E cs (ws.flatMap fun v=>v.cells.toList)∧(rvs.mapM (resF a.tmps)).run cx.P W = .ok ws W:=by
 intro rvs;induction rvs with
 | nil =>
  intro ts cs hk;cases ts with
  | nil =>
   simp only[e0c,Option.some.injEq] at hk;subst hk;exact ⟨[],trivial,a0f.nil,rfl⟩
  | cons t ts=>simp[e0c] at hk
 | cons rv rvs ih =>
  intro ts cs hk;cases ts with
  | nil=>cases rv<;>simp[e0c] at hk
  | cons ty ts =>
   cases rv with
   | tmp s =>
    simp only[e0c] at hk;split at hk
    case h_2=>cases hk
    rename_i ag cs1 hg;split at hk
    case isFalse=>cases hk
    rename_i hag;simp only[Option.map_eq_some_iff] at hk;obtain ⟨cs2,h2,rfl⟩:=hk;have hv:=ht s;rw[hg] at hv;obtain ⟨ws,k1,k2,k3⟩:=ih ts cs2 h2;have hw:(a.tmps.getD s undef).cells.size=width ty:=by
     have h1:cs1.length=(a.tmps.getD s undef).cells.toList.length:=hv.1.1;rw[Array.length_toList] at h1;exact h1.symm.trans hag.2
    refine ⟨a.tmps.getD s undef::ws,⟨RdV1.formed hv hag.1 hw,k1⟩,?_,?_⟩
    ·rw[List.flatMap_cons];exact hv.1.append k2
    ·rw[List.mapM_cons];simp[resF,k3]
   | cell s ct =>
    simp only[e0c] at hk;split at hk
    case h_2=>cases hk
    rename_i ac c hg hc;split at hk
    case isFalse=>cases hk
    rename_i hag;have hv:=h1o (ht s);rw[hg] at hv;rw[r1g] at hk;obtain ⟨cs1,h1,h2,b,o,vs,h3,h4,h5⟩:=f1y hr hk hv.single.1;simp only[Option.map_eq_some_iff] at h1;obtain ⟨cs2,q2,rfl⟩:=h1;obtain ⟨ws,k1,k2,k3⟩:=ih ts cs2 q2;obtain ⟨⟨ti,t1,t2,_⟩,t3,t4,t5,t6⟩:=m0i tab hc;have hl:vs.length=ti.size:=by rw[←h4.1,h2,t2]
    have hrun:=f0e (P:=cx.P) (W:=W) (b:=b) (o:=o) t1 t6 hl h5 (fun e=>by rw[hl,t2];exact t5 (t3.trans e));have hV:=h4.mkV (ag:=agg c) (fun e=>by rw[h2];exact t5 e);rw[←t3] at hrun;generalize (if agg c=true then Value.agg vs.toArray else vs.headD .nilFunc)=w at hrun hV;have hw:w.cells.size=width ty:=by
     have h1':cs1.length=w.cells.toList.length:=hV.1.1;rw[Array.length_toList] at h1';exact h1'.symm.trans (h2.trans hag.2)
    refine ⟨w::ws,⟨RdV1.formed hV hag.1 hw,k1⟩,?_,?_⟩
    ·rw[List.flatMap_cons];exact hV.1.append k2
    ·rw[List.mapM_cons];simp[resF,h3,asAddr,hrun,k3]
theorem y0z {fn:Func} {ws:List Value} {P:Program} (h:(fn.results.toList.mapM (resF a.tmps)).run P W = .ok ws W):(results fn a.tmps).run P W = .ok (w0e ws) W:=by
 have e:results fn a.tmps=(do let vs ←fn.results.mapM (resF a.tmps);pure (if h:vs.size=1 then vs[0] else .tuple vs)):=rfl;rw[e,Array.mapM_eq_mapM_toList];simp only[Sem.run_bind,map_eq_pure_bind,h,Result.andThen_ok,Sem.run_pure];congr 1;unfold w0e
 match ws with
 | []=>rfl
 | [w]=>rfl
 | w::w2::r=>simp
theorem p1u {P:Program} {ps:List Ty} {args:List Value} (hf:b0t ps args) {t:List (Nat×V)}:∀(back:List Nat),(back.all fun i=>isRef ps[i]?)=true→(∀i∈back,∀v,args[i]? = some v→RdV P W F E (getT t i) v) →
  a0f P W F E (back.map fun i=>x0r (getT t i)) ((back.filterMap (args[·]?)).flatMap fun v=>v.cells.toList):=by
 intro back;induction back with
 | nil=>intro _ _;exact a0f.nil
 | cons i r ih =>
  intro hall hv;simp only[List.all_cons,Bool.and_eq_true] at hall;have ih:=ih hall.2 fun j hj=>hv j (by simp[hj])
  have hp:∃p,ps[i]? = some p∧agg p=false:=by
   have:=hall.1;unfold isRef at this;split at this
   ·rename_i e he;exact ⟨_,he,rfl⟩
   ·rename_i e he;exact ⟨_,he,rfl⟩
   ·rename_i e he;exact ⟨_,he,rfl⟩
   ·rename_i T e he;exact ⟨_,he,rfl⟩
   ·rename_i kt e he;exact ⟨_,he,rfl⟩
   ·cases this
  obtain ⟨p,hp,hagg⟩:=hp;obtain ⟨v,h1,h2⟩:=hf.get hp;have hone:=h2.2.1 hagg;have hcells:=oneCell_cells hone;have hrd:=hv i (by simp) v h1;simp only[List.map_cons,List.filterMap_cons,h1,List.flatMap_cons];rw[hcells];show a0f P W F E (x0r (getT t i)::_) (v::_);refine a0f.cons.2 ⟨⟨?_,hone⟩,ih⟩;unfold x0r;split
  ·rename_i ag c cs hg;rw[hg] at hrd;have:=hrd.1;rw[hcells] at this;obtain ⟨u,us,hu,q1,_⟩:=this.uncons;simp only[List.cons.injEq] at hu;rw[hu.1];exact q1
  ·trivial
theorem retK_rd (hc:CallSound cx call W0 F0) (tab:e0u cx) {fn:Func} {s:Sig} {args:List Value} (hf:b0t s.ps args) (hback:(s.back.all fun i=>isRef s.ps[i]?)=true) (hs:StRel cx W0 F0 O0 nt st a W F E) (hK:nt.K=s.back)
  (hkv:∀i v,args[i]? = some v→nt.kv i=v) {y:El (tup (s.rs++s.back.filterMap (s.ps[·]?)))} (hk:retK cx call fn s st=some y) :
  ∃v F',(results fn a.tmps).run cx.P W = .ok v W∧Move W0 F0 O0 W F'∧Ret cx.P W0 O0 s args (tup (s.rs++s.back.filterMap (s.ps[·]?))) y W F' v:=by
 unfold retK at hk;split at hk
 case h_2=>cases hk
 rename_i cs hcs;split at hk
 case h_2=>cases hk
 rename_i z taken lent hp;split at hk
 case isFalse=>cases hk
 rename_i hnd;injection hk with hk;subst hk;obtain ⟨ws,k1,k2,k3⟩:=t1q tab hs.hr hs.t fn.results.toList s.rs cs hcs;have hb:=p1u (P:=cx.P) (W:=W) (F:=F) (E:=E) (t:=st.t) hf s.back hback (fun i hi v hv=>by
  have:=hs.t i;rw[hs.keep i (by rw[hK];exact hi),hkv i v hv] at this
  exact this)
 obtain ⟨O,m1,m2,m3⟩:=u0z (hc.later hs.later) hs.hr hp (k2.append hb);rw[←List.flatMap_append] at m1;have hnd':=n0n hnd;have own:∀n b,atName st.h E n b→b∈O0∨W0.heap.size≤b:=fun n b hat=>hs.own b ⟨n,hat⟩
 refine ⟨w0e ws,a0g F st.h E lent,y0z k3,⟨hs.later.trans (a0z lent),hs.frame,fun b hb => ?_⟩,ws,O,k1,rfl,m1,m2.nodup hnd'.1,?_,fun b hb => ?_⟩
 ·have hlt:=a0g.lt hs.hr hs.hF hb;rcases hb with hb | ⟨n,_,hat⟩
  ·rcases hs.fz b hb with q | q | q
   ·exact .inl q
   ·exact .inr (.inl q)
   ·exact .inr (.inr ⟨q,hlt⟩)
  ·rcases own n b hat with q | q
   ·exact .inr (.inl q)
   ·exact .inr (.inr ⟨q,hlt⟩)
 ·rintro b hb (hf | ⟨n,hn,hat⟩)
  ·exact m2.free b hb hf
  ·obtain ⟨m,hm,hat'⟩:=m2.at_ b hb;exact hnd'.2.2 m hm n hn (b0l hs.hr hat' hat)
 ·obtain ⟨n,_,hat⟩:=m2.at_ b hb;exact own n b hat
theorem b2d {P:Program}:∀(ps:List Ty) (x:El (tupU ps)) (vs:List Value) (h:Heap) (nm:Nat) (k:List V→Heap→Nat→Option R) (r:R),r1w ps x h nm k=some r →
  ∀ {E:EnvM} {O:List Nat},HR P W F E (fun _=>True) h→b0t ps vs→RdB P (tupU ps) x W F O (cat vs)→O.Nodup→(∀b∈O,¬F b)→(∀b∈O,¬a0p h E b) →
   ∃us h' nm' E',k us h' nm'=some r∧EnvLe E E'∧HR P W F E' (fun _=>True) h'∧us.length=vs.length∧(∀(i:Nat) p u,us[i]? = some p→vs[i]? = some u→RdV P W F E' p u)∧(∀b,a0p h' E' b→a0p h E b∨b∈O):=by
 intro ps;induction ps with
 | nil =>
  intro x vs h nm k r hk E O hr hf _ _ _ _;have:vs=[]:=List.eq_nil_of_length_eq_zero hf.length;subst this;exact ⟨[],h,nm,E,hk,EnvLe.refl E,hr,rfl,fun i p u hp=>by simp at hp,fun b hb => .inl hb⟩
 | cons p ps ih =>
  intro x vs h nm k r hk E O hr hf hx hO hF hL;cases vs with
  | nil=>exact hf.elim
  | cons v vs =>
   simp only[r1w,c0h] at hk;obtain ⟨hfr,hk⟩:=a0u hk;obtain ⟨f1,f2⟩:=d1n hfr;obtain ⟨O1,O2,rfl,x1,x2⟩:=hx;rw[List.nodup_append] at hO;obtain ⟨E1,c1,cc1⟩:=j0a h p x.1 [] nm hr x1 hO.1 (fun b hb=>hF b (by simp[hb])) (fun b hb=>hL b (by simp[hb])) (fun n hn=>⟨trivial,f1 n hn,a0x hr trivial (f1 n hn)⟩) f2;have hlive:∀b∈O2,¬a0p (d0e h (a0y h p x.1 [] nm).2.1) E1 b:=by
    rintro b hb ⟨m,hat⟩;rcases c1.at_ m b hat with ⟨_,k⟩ | ⟨_,k⟩
    ·exact hO.2.2 b k b hb rfl
    ·exact hL b (by simp[hb]) ⟨m,k⟩
   rw[g0k hf.1.2.2] at x2;obtain ⟨us,h',nm',E2,m0,m1,m2,m3,m4,m5⟩:=ih x.2 vs _ _ _ r hk c1.hr hf.2 x2 hO.2.1 (fun b hb=>hF b (by simp[hb])) hlive;refine ⟨_,h',nm',E2,m0,c1.env.trans m1,m2,by simp[m3],fun i q u hq hu => ?_,fun b hb => ?_⟩
   ·cases i with
    | zero =>
     simp at hq hu;subst hq;subst hu;exact (b2u hf.1 cc1 (f0g hf.1.2.2)).later (Later.refl W F) m1
    | succ i=>exact m4 i q u (by simpa using hq) (by simpa using hu)
   ·rcases m5 b hb with ⟨m,hat⟩ | q
    ·rcases c1.at_ m b hat with ⟨_,k⟩ | ⟨_,k⟩
     ·exact .inr (by simp[k])
     ·exact .inl ⟨m,k⟩
    ·exact .inr (by simp[q])
theorem w0j:∀(us:List V) (b s:Nat),getT (numbered b us) s=if b≤s then (us[s-b]?).getD .lost else .lost:=by
 intro us;induction us with
 | nil=>intro b s;simp[numbered,getT]
 | cons u us ih =>
  intro b s;simp only[numbered,getT];cases hb:Nat.beq b s with
  | true =>
   have:=Nat.eq_of_beq_eq_true hb;subst this;simp
  | false =>
   simp only[cond_false];rw[ih];have hne:b≠s:=fun e=>by subst e;simp at hb
   by_cases hle:b≤s
   ·rw[if_pos hle,if_pos (by omega),show s-b=(s-(b+1))+1 by omega];simp
   ·rw[if_neg hle,if_neg (by omega)]
theorem k1s {fn:Func} {Rp:Ending→World→Prop}:∀(ds:List Deferred) (a:Act) (W:World),a.defers=ds→StRel cx W0 F0 O0 nt st a W F E →
  (∀a' W',a'.tmps=a.tmps→StRel cx W0 F0 O0 nt st a' W' F E→∃v,(results fn a.tmps).run cx.P W' = .ok v W'∧Rp (.returned v) W')→LeavesInM (Rnd none) 0 cx.P fn a.tmps Rp ds .returning W:=by
 intro ds;induction ds with
 | nil =>
  intro a W _ hs h;exact h a W rfl hs
 | cons d ds ih =>
  intro a W hd hs h;have hok:=hs.defers.2;rw[hd] at hok;obtain ⟨D,rfl,k2,k3,k4,k5⟩:=hok.at_ d List.mem_cons_self;have hnd:=List.nodup_cons.1 hok.nodup;refine ⟨(by simp),.inl ⟨D,_,rfl,run_takeDeferred k2,ih { a with defers:=ds } _ rfl ?_ h⟩⟩;have hl:=h0x (W:=W) (o := .deferred none) k4;refine ⟨hs.hr.world hl (fun b hb=>⟨World.putObj_heap_other (fun e=>k5 (e ▸ hb)),fun h=>h⟩),fun b hb=>by simpa using hs.hF b hb,fun s=>(hs.t s).later hl (EnvLe.refl E),hs.later.trans hl,fun b hb hO => ?_,hs.own,hs.fz,hs.size,hs.keep,
   ⟨(fun q=>by have:=hs.defers.1 q;rw[hd] at this;cases this),hnd.2,fun d' hd' => ?_⟩,hs.env⟩
  ·rw[World.putObj_heap_other (by omega)];exact hs.frame b hb hO
  ·obtain ⟨D',q1,q2,q3⟩:=hok.at_ d' (List.mem_cons_of_mem _ hd');refine ⟨D',q1,(World.putObj_heap_other (fun e => ?_)).trans q2,q3⟩;subst e;exact hnd.1 (q1 ▸ hd')
theorem FnOk.body (hp:Fns cx) (tab:e0u cx) (hfn:FnOk cx call) (hin:InOk cx call) (hm:cx.P.follows .mixedOrders=true) {iq:(R:Type)→FuncId→List V→Heap→Nat→(V→Heap→Option R)→Option R}:FnOk cx ⟨Flat.body cx call,iq⟩:=by
 intro f s hs x y hy W F O vs hg hF hforms hrd hnd hfree;have hc:CallSound cx call W F:=FnOk.closed hp hfn hg;dsimp only at hy;unfold Flat.body at hy;rw[hs] at hy;dsimp only at hy;cases hfun:cx.P.funcs[f]? with
 | none=>rw[hfun] at hy;cases hy
 | some fn =>
  rw[hfun] at hy;dsimp only at hy;split at hy
  case h_2=>cases hy
  rename_i c x' hb hx';obtain ⟨hok,hy⟩:=a0u hy;obtain ⟨ex,rfl⟩:=a0s hx';simp only[okBody,Bool.and_eq_true] at hok;obtain ⟨hbelow,hps,hback⟩:=hok;have hps:s.ps.length≤fn.ntmps:=by simpa [Nat.ble_eq] using hps
  have hlen:=hforms.length;obtain ⟨us,h',nm',E,hk,_,hr,hul,hus,hlive⟩:=b2d (P:=cx.P) (W:=W) (F:=F) s.ps (ex ▸ x) vs (m0y (cx.hints f)) 0 _ y hy (d1f _) hforms (RdB.cast ex hrd) hnd hfree (fun b _=>k0i _);clear hy;obtain ⟨fx',hk⟩:=n1i hk;have hget:∀s,({ tmps:=vs.toArray++Array.replicate (fn.ntmps-vs.toArray.size) undef,defers:=[] }:Act).tmps.getD s undef=(vs[s]?).getD undef:=by
   intro s;simp only[Array.getD_eq_getD_getElem?,Array.getElem?_append,List.size_toArray,List.getElem?_toArray];by_cases hlt:s<vs.length
   ·rw[if_pos hlt]
   ·rw[if_neg hlt,List.getElem?_eq_none (by omega),Array.getElem?_replicate];split<;>rfl
  let nt:Slots:=⟨fn.ntmps,s.back,fun i=>(vs[i]?).getD undef,fun _=>True,fun _ _ _ _=>trivial,!noRF c⟩
  have hR:((fx'.calm c).loops=[]∧(none:Option Nat)=none)∨(nt.md=true∧(none:Option Nat)=none)∨noRF c=true:=by
   cases hn:noRF c with
   | true=>exact .inr (.inr rfl)
   | false=>exact .inr (.inl ⟨by show (!noRF c)=true;rw[hn];rfl,rfl⟩)
  have hT:(fx'.calm c).thaw=[]∨nt.md=false:=(b2v fx' c).imp id fun q=>by show (!noRF c)=false;rw[q];rfl
  have hstart:StRel cx W F O nt ⟨numbered 0 us,h'⟩ { tmps:=vs.toArray++Array.replicate (fn.ntmps-vs.toArray.size) undef,defers:=[] } W F E:=by
   refine ⟨hr,hF,fun s => ?_,Later.refl W F,fun _ _ _=>rfl,fun b hb => ?_,fun _ hb => .inl hb,?_,fun i _=>hget i,⟨fun _=>rfl,.nil⟩,trivial⟩
   ·rw[hget,w0j,if_pos (Nat.zero_le _),Nat.sub_zero];by_cases hlt:s<vs.length
    ·have hlt':s<us.length:=by omega
     rw[List.getElem?_eq_getElem hlt',List.getElem?_eq_getElem hlt];exact hus s _ _ (List.getElem?_eq_getElem hlt') (List.getElem?_eq_getElem hlt)
    ·rw[List.getElem?_eq_none (l:=us) (by omega)];exact trivial
   ·rcases hlive b hb with q | q
    ·exact (k0i _ q).elim
    ·exact .inl q
   ·simp;show vs.length+(fn.ntmps-vs.length)=fn.ntmps;omega
  refine (callsIn_wide (n:=0)).1 (callsIn_of_wp_marks (F:=Rnd none) hfun hb trivial ?_ rfl);have fin:∀(z:El (tup (s.rs++s.back.filterMap (s.ps[·]?)))) st' a' W' F' E',b0s (a:=tup (s.rs++s.back.filterMap (s.ps[·]?))) (b:=cx.out f) z=some y→retK cx call fn s st'=some z→StRel cx W F O nt st' a' W' F' E' →
    LeavesInM (Rnd none) 0 cx.P fn a'.tmps (fun e W'=>∃v' F',e = .returned v'∧Move W F O W' F'∧Ret cx.P W O s vs (cx.out f) y W' F' v') a'.defers .returning W':=by
   intro z st' a' W' F' E' h1 h2 h3;obtain ⟨ez,rfl⟩:=a0s h1;refine k1s a'.defers a' W' rfl h3 fun a2 W2 ht h4 => ?_
   obtain ⟨v,F2,k1,k2,ws,O',k3,k4,k5,k6⟩:=retK_rd hc tab hforms hback h4 rfl (fun i v hv=>by show (vs[i]?).getD undef=v;rw[hv];rfl) h2;rw[←ht];exact ⟨v,k1,v,F2,rfl,k2,ws,O',k3,k4,RdB.cast ez k5,k6⟩
  refine l1h (rd:=none) (W0:=W) (F0:=F) (O0:=O) (nt:=nt) hc tab hfn hin (.inr fun _=>trivial) hm c hR hT _ _ _ _ y _ W F E _ hbelow hstart hk (fun e st' a' W' F' E' h1 h2 => ?_) (fun z st' a' W' F' E' h1 h2 h3=>fin z st' a' W' F' E' h1 h2 h3);cases e with
  | normal =>
   dsimp only at h1;cases hz:retK cx call fn s st' with
   | none=>rw[hz] at h1;cases h1
   | some z=>rw[hz] at h1;exact fin z st' a' W' F' E' h1 hz h2
  | ret =>
   dsimp only at h1;cases hz:retK cx call fn s st' with
   | none=>rw[hz] at h1;cases h1
   | some z=>rw[hz] at h1;exact fin z st' a' W' F' E' h1 hz h2
  | exit id=>cases h1
  | goto l=>cases h1
  | panic ch=>cases h1
  | outgrown=>cases h1
theorem inRes_rd (tab:e0u cx) (hr:HR cx.P W F E (fun _=>True) h) {t:List (Nat×V)} (ht:∀s,RdV cx.P W F E (getT t s) (a.tmps.getD s undef)):∀(rvs:List ResultVar) (l:List (Bool×List Cell)),g1f cx h t rvs=some l →
  ∃ws:List Value,l.length=ws.length∧(∀(j:Nat) p u,l[j]? = some p→ws[j]? = some u→RdV1 cx.P W F E p.1 p.2 u)∧(rvs.mapM (resF a.tmps)).run cx.P W = .ok ws W:=by
 intro rvs;induction rvs with
 | nil =>
  intro l hk;simp only[g1f,Option.some.injEq] at hk;subst hk;exact ⟨[],rfl,fun j p u h=>by simp at h,rfl⟩
 | cons rv rvs ih =>
  intro l hk;have two:∀ {p:Bool×List Cell} {l2:List (Bool×List Cell)} {w:Value} {ws:List Value},RdV1 cx.P W F E p.1 p.2 w→(∀(j:Nat) p u,l2[j]? = some p→ws[j]? = some u→RdV1 cx.P W F E p.1 p.2 u) →
    ∀(j:Nat) q u,(p::l2)[j]? = some q→(w::ws)[j]? = some u→RdV1 cx.P W F E q.1 q.2 u:=by
   intro p l2 w ws h1 h2 j q u hq hu;cases j with
   | zero=>simp at hq hu;subst hq;subst hu;exact h1
   | succ j=>exact h2 j q u (by simpa using hq) (by simpa using hu)
  cases rv with
  | tmp s =>
   simp only[g1f] at hk;split at hk
   case h_2=>cases hk
   rename_i ag cs1 hg;simp only[Option.map_eq_some_iff] at hk;obtain ⟨l2,h2,rfl⟩:=hk;have hv:=ht s;rw[hg] at hv;obtain ⟨ws,k1,k2,k3⟩:=ih l2 h2;refine ⟨a.tmps.getD s undef::ws,by simp[k1],two hv k2,?_⟩;rw[List.mapM_cons];simp[resF,k3]
  | cell s ct =>
   simp only[g1f] at hk;split at hk
   case h_2=>cases hk
   rename_i ac c hg hc;have hv:=h1o (ht s);rw[hg] at hv;rw[r1g] at hk;obtain ⟨cs1,h1,h2,b,o,vs,h3,h4,h5⟩:=f1y hr hk hv.single.1;simp only[Option.map_eq_some_iff] at h1;obtain ⟨l2,q2,rfl⟩:=h1;obtain ⟨ws,k1,k2,k3⟩:=ih l2 q2;obtain ⟨⟨ti,t1,t2,_⟩,t3,t4,t5,t6⟩:=m0i tab hc;have hl:vs.length=ti.size:=by rw[←h4.1,h2,t2]
   have hrun:=f0e (P:=cx.P) (W:=W) (b:=b) (o:=o) t1 t6 hl h5 (fun e=>by rw[hl,t2];exact t5 (t3.trans e));have hV:=h4.mkV (ag:=agg c) (fun e=>by rw[h2];exact t5 e);rw[←t3] at hrun;generalize (if agg c=true then Value.agg vs.toArray else vs.headD .nilFunc)=w at hrun hV;refine ⟨w::ws,by simp[k1],two hV k2,?_⟩;rw[List.mapM_cons];simp[resF,h3,asAddr,hrun,k3]
open Classical in
theorem z1z (hp:Fns cx) (tab:e0u cx) (hfn:FnOk cx call) (hin:InOk cx call) (hm:cx.P.follows .mixedOrders=true) {f:FuncId} {us:List V} {nm:Nat} {k:V→Heap→Option R} {r:R} (hy:inBody cx call R f us h nm k=some r):(∃s,cx.sig f=some s) ∧
  ∀(W:World) (F:Fz) (E:EnvM) (vs:List Value),GlobOk cx W F→(∀b,F b→b<W.heap.size)→HR cx.P W F E (fun _=>True) h→us.length=vs.length→(∀(i:Nat) p u,us[i]? = some p→vs[i]? = some u→RdV cx.P W F E p u) →
   Calls cx.P f vs.toArray W fun e W'=>∃v F' E' x h',e = .returned v∧k x h'=some r∧HR cx.P W' F' E' (fun _=>True) h'∧RdV cx.P W' F' E' x v∧Later W F W' F'∧EnvLe E E'∧(∀b,F' b→b<W'.heap.size) ∧
    (∀b,b<W.heap.size→¬a0p h E b→W'.heap[b]? = W.heap[b]?)∧(∀b,a0p h' E' b→a0p h E b∨W.heap.size≤b)∧(∀b,F' b→F b∨a0p h E b∨W.heap.size≤b):=by
 unfold inBody at hy;cases hfun:cx.P.funcs[f]? with
 | none=>rw[hfun] at hy;cases hy
 | some fn =>
  rw[hfun] at hy;dsimp only at hy;split at hy
  case h_2=>cases hy
  rename_i c hb;obtain ⟨hok,hy⟩:=a0u hy;simp only[Bool.and_eq_true] at hok;obtain ⟨_,hsig,hbelow,hps⟩:=hok;refine ⟨Option.isSome_iff_exists.1 hsig,?_⟩;intro W F E vs hg hF hr hlen hus;have hc:CallSound cx call W F:=FnOk.closed hp hfn hg;have hps:us.length≤fn.ntmps:=by simpa [Nat.ble_eq] using hps
  have hget:∀s,({ tmps:=vs.toArray++Array.replicate (fn.ntmps-vs.toArray.size) undef,defers:=[] }:Act).tmps.getD s undef=(vs[s]?).getD undef:=by
   intro s;simp only[Array.getD_eq_getD_getElem?,Array.getElem?_append,List.size_toArray,List.getElem?_toArray];by_cases hlt:s<vs.length
   ·rw[if_pos hlt]
   ·rw[if_neg hlt,List.getElem?_eq_none (by omega),Array.getElem?_replicate];split<;>rfl
  let nt:Slots:=⟨fn.ntmps,[],fun _=>undef,EnvLe E,fun _ _ h1 h2=>h1.trans h2,false⟩
  let O:List Nat:=(List.range W.heap.size).filter fun b=>decide (a0p h E b)
  have hO:∀b,b∈O↔a0p h E b:=fun b=>by
   simp only[O,List.mem_filter,List.mem_range,decide_eq_true_eq];exact ⟨fun h=>h.2,fun h=>⟨hr.lt b h,h⟩⟩
  have hstart:StRel cx W F O nt ⟨numbered 0 us,h⟩ { tmps:=vs.toArray++Array.replicate (fn.ntmps-vs.toArray.size) undef,defers:=[] } W F E:=by
   refine ⟨hr,hF,fun s => ?_,Later.refl W F,fun _ _ _=>rfl,fun b hb => .inl ((hO b).2 hb),fun _ hb => .inl hb,?_,(fun i hi=>by cases hi),⟨fun _=>rfl,.nil⟩,EnvLe.refl E⟩
   ·rw[hget,w0j,if_pos (Nat.zero_le _),Nat.sub_zero];by_cases hlt:s<vs.length
    ·have hlt':s<us.length:=by omega
     rw[List.getElem?_eq_getElem hlt',List.getElem?_eq_getElem hlt];exact hus s _ _ (List.getElem?_eq_getElem hlt') (List.getElem?_eq_getElem hlt)
    ·rw[List.getElem?_eq_none (l:=us) (by omega)];exact trivial
   ·simp;show vs.length+(fn.ntmps-vs.length)=fn.ntmps;omega
  refine calls_of_wp hfun hb ((wpIn_wide (n:=0)).1 ?_);have fin:∀st' a' W' F' E',((g1f cx st'.h st'.t fn.results.toList).bind fun l=>k (resV l) st'.h)=some r→StRel cx W F O nt st' a' W' F' E' →
    a'.defers=[]∧∃v,(results fn a'.tmps).run cx.P W' = .ok v W'∧∃v' F' E' x h',Ending.returned v = .returned v'∧k x h'=some r∧HR cx.P W' F' E' (fun _=>True) h'∧RdV cx.P W' F' E' x v'∧Later W F W' F'∧EnvLe E E'∧(∀b,F' b→b<W'.heap.size) ∧
     (∀b,b<W.heap.size→¬a0p h E b→W'.heap[b]? = W.heap[b]?)∧(∀b,a0p h' E' b→a0p h E b∨W.heap.size≤b)∧(∀b,F' b→F b∨a0p h E b∨W.heap.size≤b):=by
   intro st' a' W' F' E' h1 h2;cases hres:g1f cx st'.h st'.t fn.results.toList with
   | none=>rw[hres] at h1;cases h1
   | some l =>
    rw[hres] at h1;simp only[Option.bind_some] at h1;obtain ⟨ws,k1,k2,k3⟩:=inRes_rd tab h2.hr h2.t _ _ hres;exact ⟨h2.defers.1 rfl,w0e ws,y0z k3,_,F',E',_,_,rfl,h1,h2.hr,y1e k1 k2,h2.later,h2.env,h2.hF,fun b hb hn=>h2.frame b hb (fun hm=>hn ((hO b).1 hm)),
     fun b hb=>(h2.own b hb).imp (hO b).1 (fun h=>h),fun b hb=>(h2.fz b hb).imp (fun h=>h) (fun h=>h.imp (hO b).1 fun h=>h)⟩
  refine l1h (rd:=none) (W0:=W) (F0:=F) (O0:=O) (nt:=nt) hc tab hfn hin (.inl rfl) hm c (.inl ⟨rfl,rfl⟩) (.inl rfl) _ _ _ _ r _ W F E _ hbelow hstart hy (fun e st' a' W' F' E' h1 h2 => ?_) (fun z=>nomatch z);cases e with
  | normal=>exact fin st' a' W' F' E' h1 h2
  | ret=>exact fin st' a' W' F' E' h1 h2
  | exit id=>cases h1
  | goto l=>cases h1
  | panic ch=>cases h1
  | outgrown=>cases h1
def s1i (cx:Cx):Prop :=
 ∀f H,cx.hand f=some H→∀s,cx.sig f=some s→∀(x:El (cx.arg f)) (y:El (cx.out f)),handF cx H f x=some y→∀W F O vs,GlobOk cx W F→(∀b,F b→b<W.heap.size)→b0t s.ps vs→RdB cx.P (cx.arg f) x W F O (cat vs) →
  O.Nodup→(∀b∈O,¬F b)→Calls cx.P f vs.toArray W fun e W'=>∃v F',e = .returned v∧Move W F O W' F'∧Ret cx.P W O s vs (cx.out f) y W' F' v
theorem evF_both (tab:e0u cx) (hp:Fns cx) (hm:cx.P.follows .mixedOrders=true) (hh:s1i cx):∀n,FnOk cx (evF cx n)∧InOk cx (evF cx n):=by
 intro n;induction n with
 | zero=>exact ⟨fun f s _ x y hy=>(by cases hy),fun R f us h nm k r hy=>(by cases hy)⟩
 | succ n ih =>
  refine ⟨?_,fun R f us h nm k r hy=>z1z hp tab ih.1 ih.2 hm hy⟩;intro f s hs x y hy;simp only[evF] at hy;cases hf:cx.hand f with
  | none=>rw[hf] at hy;exact FnOk.body (iq:=fun _ _ _ _ _ _=>none) hp tab ih.1 ih.2 hm f s hs x y hy
  | some H=>rw[hf] at hy;exact hh f H hf s hs x y hy
theorem evF_ok (tab:e0u cx) (hp:Fns cx) (hm:cx.P.follows .mixedOrders=true) (hh:s1i cx) (n:Nat):FnOk cx (evF cx n):=(evF_both tab hp hm hh n).1
end
end Go.Flat
end
section
namespace Go.Flat
open Go.RowKit (Below)
open Go.ChangeShapes Go.WideShapes
def Wf:(t:Ty)→El t→Prop
 | .pair a b,x=>Wf a x.1∧Wf b x.2
 | .wrap e,x=>Wf e x
 | .int k,x=>k.min≤x∧x≤k.max
 | .str,x=>x.length≤maxLen
 | .slice e,x=>x.length≤maxLen∧∀y∈x,Wf e y
 | _,_=>True
def d0o (P:Program) (self:TypeId→Ty→Bool):List Field→Ty→Nat→Bool
 | [],.unit,_=>true
 | [f],e,off=>Nat.beq f.offset off&&(l0i P f.type e&&self f.type e)
 | f::g::r,.pair a b,off=>Nat.beq f.offset off&&(l0i P f.type a&&(self f.type a&&d0o P self (g::r) b (off+width a)))
 | _,_,_=>false
def readB (P:Program):Nat→TypeId→Ty→Bool
 | 0,_,_=>false
 | d+1,t,c =>
  match P.underlying t,c with
  | some .bool,.bool=>true
  | some (.int k),.int k'=>decide (k=k')
  | some .string,.str=>true
  | some (.slice el),.slice e=>l0i P el e&&(readB P d el e && !Nat.beq (width e) 0)
  | some (.struct fs),.wrap e=>l0i P t (.wrap e)&&d0o P (readB P d) fs.toList e 0
  | some (.array n el),.wrap e=>l0i P t (.wrap e)&&e0d P (readB P d) el n e
  | _,_=>false
section
variable {H:Type} {enc:TypeId×Value→H} {P:Program} {w:World} {held:Bool} {F:Fz}
theorem d0v {t:TypeId} {e:Ty} (h:l0i P t e=true):P.cellsOf t=width e:=by
 unfold l0i at h;split at h
 case h_2=>cases h
 rename_i ti hti;simp only[Bool.and_eq_true] at h;rw[show P.cellsOf t=ti.size by simp[Program.cellsOf,hti]];exact Nat.eq_of_beq_eq_true h.1
def c2u (enc:TypeId×Value→H) (P:Program) (w:World) (held:Bool) (F:Fz) (self:TypeId→Ty→Bool):Prop :=
 ∀t c,self t c=true→∀n (cs:List Value) (y:DataW H×List MemPlace),DataW.trod enc P w 0 (fun _=>true) held n t cs=some y→∃x:El c,cs.length=width c∧Rd P c x w F (fun j=>cs[j]?)∧Wf c x
theorem mapM_get {α β:Type} {f:α→Option β}:∀ {l:List α} {r:List β},l.mapM f=some r→∀(i:Nat) (x:α),l[i]? = some x→f x=r[i]? := by
 intro l;induction l with
 | nil=>intro r _ i x h;simp at h
 | cons a l ih =>
  intro r h i x hx;rw[List.mapM_cons] at h;simp only[bind,Option.bind_eq_some_iff,pure,Option.some.injEq] at h;obtain ⟨b,h1,r',h2,rfl⟩:=h;cases i with
  | zero=>simp at hx;subst hx;simpa using h1
  | succ i=>simpa using ih h2 i x (by simpa using hx)
theorem z1d {α β:Type} {f:α→Option β}:∀ {l:List α} {r:List β},l.mapM f=some r→r.length=l.length:=by
 intro l;induction l with
 | nil=>intro r h;simp at h;subst h;rfl
 | cons a l ih =>
  intro r h;rw[List.mapM_cons] at h;simp only[bind,Option.bind_eq_some_iff,pure,Option.some.injEq] at h;obtain ⟨b,h1,r',h2,rfl⟩:=h;simp[ih h2]
theorem l1o {a:Addr} {n:Nat} {cs:List Value} (h:w.cells? 0 a n=some cs):cs.length=n∧∀j,j<n→cs[j]? = w.cell? (a.add j):=by
 unfold World.cells? at h;rw[if_pos (Nat.zero_le _)] at h;have hl:cs.length=n:=by have:=z1d h;simpa using this
 refine ⟨hl,fun j hj => ?_⟩;have hj':(List.range n)[j]? = some j:=List.getElem?_range hj;exact (mapM_get h j j hj').symm
theorem fields_read {self:TypeId→Ty→Bool} (ih:c2u enc P w held F self) {n:Nat}:∀(fs:List Field) (e:Ty) (off:Nat) (cs:List Value),
  d0o P self fs e off=true→off+width e≤cs.length→(∀f∈fs,∃y,DataW.trod enc P w 0 (fun _=>true) held n f.type ((cs.drop f.offset).take (P.cellsOf f.type))=some y) →
   ∃x:El e,Rd P e x w F (fun j=>cs[off+j]?)∧Wf e x:=by
 intro fs;induction fs with
 | nil =>
  intro e off cs h _ _;cases e<;>(try (cases h));exact ⟨(),trivial,trivial⟩
 | cons f r ihf =>
  intro e off cs h hlen hf;have step:∀(c:Ty),Nat.beq f.offset off=true→l0i P f.type c=true→self f.type c=true→off+width c≤cs.length→∃x:El c,Rd P c x w F (fun j=>cs[off+j]?)∧Wf c x:=by
   intro c k1 k2 k3 k4;have k1:=Nat.eq_of_beq_eq_true k1;obtain ⟨y,hy⟩:=hf f (by simp);rw[k1,d0v k2] at hy;obtain ⟨x,_,h2,h3⟩:=ih _ _ k3 _ _ _ hy;refine ⟨x,Rd.congr c (fun j hj => ?_) h2,h3⟩;rw[List.getElem?_take,if_pos hj,List.getElem?_drop]
  cases r with
  | nil =>
   simp only[d0o,Bool.and_eq_true] at h;exact step e h.1 h.2.1 h.2.2 hlen
  | cons g r =>
   cases e with
   | pair a b =>
    simp only[d0o,Bool.and_eq_true] at h;simp only[width] at hlen;obtain ⟨x,x1,x2⟩:=step a h.1 h.2.1 h.2.2.1 (by omega);obtain ⟨y,y1,y2⟩:=ihf b (off+width a) cs h.2.2.2 (by omega) (fun f' hf'=>hf f' (by simp[hf']));exact ⟨(x,y),⟨x1,Rd.congr b (fun j _=>by rw[Nat.add_assoc]) y1⟩,x2,y2⟩
   | _=>simp[d0o] at h
theorem u1x {self:TypeId→Ty→Bool} (ih:c2u enc P w held F self) {el:TypeId} {m:Nat}:∀(n:Nat) (e:Ty) (i:Nat) (cs:List Value),
  e0d P self el n e=true→i*P.cellsOf el+width e≤cs.length→(∀j,i≤j→j<i+n→∃y,DataW.trod enc P w 0 (fun _=>true) held m el ((cs.drop (j*P.cellsOf el)).take (P.cellsOf el))=some y) →
   ∃x:El e,Rd P e x w F (fun j=>cs[i*P.cellsOf el+j]?)∧Wf e x:=by
 intro n;induction n with
 | zero =>
  intro e i cs h _ _;cases e<;>(try (cases h));exact ⟨(),trivial,trivial⟩
 | succ n ihn =>
  intro e i cs h hlen hf;have step:∀(c:Ty),l0i P el c=true→self el c=true→∃x:El c,Rd P c x w F (fun j=>cs[i*P.cellsOf el+j]?)∧Wf c x:=by
   intro c k2 k3;obtain ⟨y,hy⟩:=hf i (Nat.le_refl _) (by omega);obtain ⟨x,_,h2,h3⟩:=ih _ _ k3 _ _ _ hy;refine ⟨x,Rd.congr c (fun j hj => ?_) h2,h3⟩;rw[List.getElem?_take,if_pos (by rw[d0v k2];exact hj),List.getElem?_drop]
  cases n with
  | zero =>
   simp only[e0d,Bool.and_eq_true] at h;exact step e h.1 h.2
  | succ n =>
   cases e with
   | pair a b =>
    simp only[e0d,Bool.and_eq_true] at h;have hc:=d0v h.1;simp only[width] at hlen;obtain ⟨x,x1,x2⟩:=step a h.1 h.2.1;have e1:(i+1)*P.cellsOf el=i*P.cellsOf el+width a:=by rw[Nat.succ_mul,hc]
    obtain ⟨y,y1,y2⟩:=ihn b (i+1) cs h.2.2 (by omega) (fun j h1 h2=>hf j (by omega) (by omega));refine ⟨(x,y),⟨x1,Rd.congr b (fun j _ => ?_) y1⟩,x2,y2⟩;rw[e1,Nat.add_assoc]
   | _=>simp[e0d] at h
theorem read_ok:∀(d:Nat),c2u enc P w held (fun b=>b<w.heap.size) (readB P d):=by
 intro d;induction d with
 | zero=>intro t c h;cases h
 | succ d ih =>
  intro t c h n cs y hy;unfold readB at h;split at h
  ·rename_i hu;obtain ⟨b,rfl,_⟩:=DataW.trod_bool hu hy;exact ⟨b,rfl,rfl,trivial⟩
  ·rename_i k k' hu;obtain ⟨m,rfl,_,hw⟩:=DataW.trod_int hu hy;have:k=k':=by simpa using h
   subst this;simp only[Lit.wf,Bool.and_eq_true,decide_eq_true_eq] at hw;exact ⟨m,rfl,rfl,hw⟩
  ·rename_i hu;obtain ⟨s,rfl,_,hs⟩:=DataW.trod_string hu hy;refine ⟨s.data.toList,rfl,?_,?_⟩
   ·show some (Value.string s)=some (.string ⟨s.data.toList.toArray⟩);rw[Array.toArray_toList]
   show s.data.toList.length≤maxLen;have:s.data.toList.length=s.size:=rfl;rw[this];exact hs
  ·rename_i el e hu;simp only[Bool.and_eq_true,Bool.not_eq_true'] at h;obtain ⟨h1,h2,h3⟩:=h;have hce:=d0v h1;have hpos:0<width e:=by
    rcases Nat.eq_zero_or_pos (width e) with q | q
    ·rw[q] at h3;cases h3
    ·exact q
   rcases DataW.trod_slice hu hy with ⟨rfl,_⟩ | ⟨a,len,cap,elems,rest,m,rfl,rfl,_,_,hlc,hcm,hel,hget,hsp,_⟩
   ·exact ⟨[],rfl,.inl ⟨rfl,_,rfl⟩,Nat.zero_le _,by simp⟩
   ·obtain ⟨hr1,hr2⟩:=hsp rfl;have each:∀i,i<cap→∃cs:List Value,w.cells? 0 (a.add (i*P.cellsOf el)) (P.cellsOf el)=some cs∧∃y,DataW.trod enc P w 0 (fun _=>true) held m el cs=some y:=by
     intro i hi;have hs:∃y,(w.cells? 0 (a.add (i*P.cellsOf el)) (P.cellsOf el)).bind (DataW.trod enc P w 0 (fun _=>true) held m el)=some y:=by
      by_cases hlt:i<len
      ·rw[hget i hlt,List.getElem?_eq_getElem (by omega)];exact ⟨_,rfl⟩
      ·have:=hr2 (i-len) (by omega);rw[show len+(i-len)=i by omega] at this;rw[this,List.getElem?_eq_getElem (by omega)];exact ⟨_,rfl⟩
     obtain ⟨y,hy⟩:=hs;rw[Option.bind_eq_some_iff] at hy;obtain ⟨cs,k1,k2⟩:=hy;exact ⟨cs,k1,y,k2⟩
    have spot:0<cap→a.spot=none∧a.block<w.heap.size:=by
     intro hc;obtain ⟨cs,k1,_⟩:=each 0 hc;obtain ⟨l1,l2⟩:=l1o k1;have:=l2 0 (by omega);rw[List.getElem?_eq_getElem (by omega)] at this;simp only[Nat.zero_mul,Addr.add,if_true] at this;have hs:=this.symm;unfold World.cell? at hs;split at hs
     ·rename_i c t fr hb;split at hs
      ·cases hs
      ·rename_i hspot;refine ⟨by cases hsp:a.spot with | none=>rfl | some z=>rw[hsp] at hspot;exact absurd rfl hspot,b0p? hb⟩
     ·cases hs
    have elem:∀i,i<len→∃x:El e,Rd P e x w (fun b=>b<w.heap.size) (mem w a.block (a.off+i*width e))∧Wf e x:=by
     intro i hi;obtain ⟨cs,k1,y,k2⟩:=each i (by omega);obtain ⟨l1,l2⟩:=l1o k1;obtain ⟨x,x1,x2,x3⟩:=ih _ _ h2 _ _ _ k2;refine ⟨x,Rd.congr e (fun j hj => ?_) x2,x3⟩;rw[l2 j (by omega)];obtain ⟨hs,_⟩:=spot (by omega);have ha:a=⟨a.block,a.off,none⟩:=by cases a;simp at hs;subst hs;rfl
     rw[ha,addr_add,addr_add,hce];rfl
    rcases Nat.eq_zero_or_pos cap with hc0 | hc0
    ·subst hc0;have:len=0:=by omega
     subst this;exact ⟨[],rfl,.inl ⟨rfl,_,rfl⟩,Nat.zero_le _,by simp⟩
    ·obtain ⟨hs,hb⟩:=spot hc0;have ha:a=⟨a.block,a.off,none⟩:=by cases a;simp at hs;subst hs;rfl
     have all:∀k,k≤len→∃xs:List (El e),xs.length=k∧(∀i (h:i<xs.length),Rd P e xs[i] w (fun b=>b<w.heap.size) (mem w a.block (a.off+i*width e)))∧∀y∈xs,Wf e y:=by
      intro k;induction k with
      | zero=>intro _;exact ⟨[],rfl,fun i hi=>by simp at hi,by simp⟩
      | succ k ihk =>
       intro hk;obtain ⟨xs,l1,l2,l3⟩:=ihk (by omega);obtain ⟨x,x1,x2⟩:=elem k (by omega);refine ⟨xs++[x],by simp[l1],fun i hi => ?_,fun y hy => ?_⟩
       ·simp at hi;by_cases hlt:i<xs.length
        ·rw[List.getElem_append_left hlt];exact l2 i hlt
        ·have:i=k:=by omega
         subst this;rw[List.getElem_append_right (by omega)];simp[l1,x1]
       ·rcases List.mem_append.1 hy with hy | hy
        ·exact l3 y hy
        ·simp at hy;subst hy;exact x2
     obtain ⟨xs,l1,l2,l3⟩:=all len (Nat.le_refl _);refine ⟨xs,rfl,.inr ⟨a.block,a.off,cap,?_,hb,by omega,l2⟩,by omega,l3⟩;show some (Value.slice (some a) len cap)=some (Value.slice (some ⟨a.block,a.off,none⟩) xs.length cap);rw[l1,←ha]
  ·rename_i fs e hu;simp only[Bool.and_eq_true] at h;obtain ⟨xs,m,rfl,_,hl,hxs,hget⟩:=DataW.trod_struct hu hy;have hcl:cs.length=width e:=by rw[hl,d0v h.1];rfl
   obtain ⟨x,x1,x2⟩:=fields_read (F:=fun b=>b<w.heap.size) ih (n:=m) fs.toList e 0 cs h.2 (by omega) (fun f hf=>by
    obtain ⟨i,hi⟩:=List.getElem?_of_mem hf;have hi':fs[i]? = some f:=by simpa using hi
    have:=hget i f hi';have hlt:i<xs.length:=by
     rw[hxs];rcases Nat.lt_or_ge i fs.size with q | q
     ·exact q
     ·rw[Array.getElem?_eq_none q] at hi';cases hi'
    rw[List.getElem?_eq_getElem hlt] at this
    exact ⟨_,this⟩)
   exact ⟨x,hcl,Rd.congr e (fun j _=>by rw[Nat.zero_add]) x1,x2⟩
  ·rename_i m el e hu;simp only[Bool.and_eq_true] at h;obtain ⟨xs,q,rfl,_,hl,hxs,hget⟩:=DataW.trod_array hu hy;have hcl:cs.length=width e:=by rw[hl,d0v h.1];rfl
   obtain ⟨x,x1,x2⟩:=u1x (F:=fun b=>b<w.heap.size) ih (m:=q) m e 0 cs h.2 (by omega) (fun j _ hj=>by
    have:=hget j (by omega);rw[List.getElem?_eq_getElem (by omega)] at this
    exact ⟨_,this⟩)
   exact ⟨x,hcl,Rd.congr e (fun j _=>by rw[Nat.zero_mul,Nat.zero_add]) x1,x2⟩
  ·cases h
theorem open_arg {t:TypeId} {c:Ty} {d:Nat} {base:Nat} {v:Value} {dd:DataW H} {p:List MemPlace} (hB:readB P d t c=true) (ha:aggB P t=agg c) (hok:Value.okWide P w .any base t v)
  (h:DataW.Trod enc P w 0 (fun _=>true) held t v dd p):∃x:El c,formed c v∧Rd P c x w (fun b=>b<w.heap.size) (one v)∧Wf c x:=by
 obtain ⟨n,hn⟩:=h;obtain ⟨x,x1,x2,x3⟩:=read_ok d t c hB n _ _ hn;refine ⟨x,⟨fun e => ?_,fun e => ?_,by rw[←x1];simp⟩,Rd.congr c (fun j _=>by simp[one]) x2,x3⟩
 ·rw[e] at ha;unfold aggB at ha;unfold Value.okWide at hok;split at ha
  ·rename_i hu;rw[hu] at hok;obtain ⟨cs,h1,_⟩:=hok;exact ⟨cs,h1⟩
  ·rename_i hu;rw[hu] at hok;obtain ⟨cs,h1,_⟩:=hok;exact ⟨cs,h1⟩
  ·cases ha
 ·rw[e] at ha;cases v with
  | agg cs =>
   exfalso;unfold Value.okWide at hok;unfold aggB at ha;cases hu:P.underlying t with
   | none=>rw[hu] at hok;simp[Cell.okWide,hu,Cell.ok] at hok
   | some u =>
    rw[hu] at hok ha;cases u<;>simp_all [Cell.okWide,Cell.ok]
  | tuple cs =>
   exfalso;unfold Value.okWide at hok;unfold aggB at ha;cases hu:P.underlying t with
   | none=>rw[hu] at hok;simp[Cell.okWide,hu,Cell.ok] at hok
   | some u =>
    rw[hu] at hok ha;cases u<;>simp_all [Cell.okWide,Cell.ok]
  | _=>rfl
end
theorem GlobOk.none {cx:Cx} {W:World} {F:Fz} (h:∀g,cx.glob g=none) (h2:∀g,cx.gsh g=none:=by intro g;rfl):GlobOk cx W F:=⟨fun g t x e=>(by rw[h g] at e;cases e),fun g k e=>(by rw[h2 g] at e;cases e)⟩
theorem z1l {cx:Cx} (tab:e0u cx) (hp:Fns cx) (hm:cx.P.follows .mixedOrders=true) (hh:s1i cx) {n K:Nat} {s:Sig} (hs:cx.sig K=some s) (hrs:s.rs=[.bool]) (hback:s.back=[])
  {x:El (cx.arg K)} {y:El (cx.out K)} (hx:evF cx n K x=some y) (ho:cx.out K = .bool) (hy:(ho ▸ y:El .bool)=true) {W:World} {vs:List Value} (hg:GlobOk cx W (fun b=>b<W.heap.size)) (hf:b0t s.ps vs) (hrd:RdB cx.P (cx.arg K) x W (fun b=>b<W.heap.size) [] (cat vs)) :
  Calls cx.P K vs.toArray W fun e W'=>e = .returned (.bool true)∧Below W.heap.size W W':=by
 refine (evF_ok tab hp hm hh n K s hs x y hx W (fun b=>b<W.heap.size) [] vs hg (fun _ h=>h) hf hrd List.nodup_nil (by simp)).mono fun e W' h => ?_
 obtain ⟨v,F',rfl,hmove,ws,O',h1,rfl,h2,_,_,_⟩:=h;refine ⟨?_,hmove.later.os,hmove.later.tape,hmove.later.output,hmove.later.size,fun b hb=>hmove.frame b hb (by simp)⟩;rw[hrs] at h1
 match ws,h1 with
 | [w],h1 =>
  have h3:=RdB.cast ho h2;rw[hy] at h3;obtain ⟨_,h4⟩:=h3;rw[hback] at h4;have h5:cat ([w]++([]:List Nat).filterMap (vs[·]?)) 0=some (.bool true):=h4;have hc:=oneCell_cells (h1.1.2.1 rfl);rw[show ([w]++([]:List Nat).filterMap (vs[·]?))=[w] from rfl,f0g (t := .bool) (by rw[hc];rfl) 0 (by simp[width]),one,hc] at h5;simp at h5;subst h5;rfl
def k1a (P : Program) (f : FuncId) : Bool := match P.funcs[f]? with | some fn => !(fn.name == "runtime.NumGoroutine") && !fn.body.isNone | none => false
theorem y1j {P:Program} {f:FuncId} (h:k1a P f=true):Plain P f:=by
 unfold k1a at h;split at h
 ·rename_i fn hf;simp only[Bool.and_eq_true,Bool.not_eq_true'] at h;exact ⟨fn,hf,h.1,h.2⟩
 ·cases h
theorem tab_ok {cx:Cx} {T:BT TI} (hT:∀t,cx.info t=T.get t) (h:T.allB (fun n i=>infoB cx.P n i) id=true):e0u cx:=fun t i hi=>infoB_ok (BT.get_all T id h t i (by rw[←hT];exact hi))
theorem plain_ok {cx:Cx} {T:BT Sig} (hT:∀f,cx.sig f=T.get f) (h:T.allB (fun n _=>k1a cx.P n) id=true):∀f s,cx.sig f=some s→Plain cx.P f :=
 fun f s hs=>y1j (BT.get_all (p:=fun n _=>k1a cx.P n) T id h f s (by rw[←hT];exact hs))
theorem ext_ok {cx:Cx} {l:List (Nat×Nat)} (hl:∀f,cx.ext f=l1e l f) (h:∀x∈l,ExtOk cx.P x.1 x.2):∀f k,cx.ext f=some k→ExtOk cx.P f k:=by
 intro f k hk;rw[hl] at hk;clear hl;induction l with
 | nil=>cases hk
 | cons x r ih =>
  obtain ⟨m,q⟩:=x;simp only[l1e] at hk;cases hb:Nat.beq m f with
  | true =>
   rw[hb] at hk;simp only[cond_true,Option.some.injEq] at hk;have:=Nat.eq_of_beq_eq_true hb;subst this;subst hk;exact h (m,q) (by simp)
  | false =>
   rw[hb] at hk;exact ih (fun x hx=>h x (by simp[hx])) hk
end Go.Flat
end
section
namespace Go.Flat
theorem tif_dec {α:Type} (p:Prop) [Decidable p] (x y:α):tif (decide p) x y=if p then x else y:=by
 by_cases h:p<;>simp[h]
theorem tif_not {α:Type} (b:Bool) (x y:α):tif (!b) x y=tif b y x:=by cases b<;>rfl
theorem u0k {α:Type} (a b:Bool) (x y:α):tif (a&&b) x y=tif a (tif b x y) y:=by cases a<;>rfl
theorem w64 {x:Int} (h : -9223372036854775808≤x) (h':x≤9223372036854775807):IntKind.wrap .i64 x=x:=IntWalk.i64_in x ⟨h,h'⟩
theorem wu64 {x:Int} (h:0≤x) (h':x≤18446744073709551615):IntKind.wrap .u64 x=x:=IntWalk.u64_in x ⟨h,h'⟩
theorem wu8 {x:Int} (h:0≤x) (h':x≤255):IntKind.wrap .u8 x=x:=IntWalk.u8_in x ⟨h,h'⟩
theorem y0a (x:Int):IntKind.wrap .u8 x=x % 256:=IntKind.wrap_u8 x
theorem u0l {a b:Int} (h:0≤a):Int.tdiv a b=a / b:=Int.tdiv_eq_ediv_of_nonneg h
theorem n0y {a b:Int} (h:0≤a):Int.tmod a b=a % b:=Int.tmod_eq_emod_of_nonneg h
def valI (l:List Int):Int:=l.foldl (fun v b=>v*256+b) 0
def c0d (l:List UInt8):List Int:=l.map fun c=>(c.toNat:Int)
theorem bytesI_range (l:List UInt8):∀x∈c0d l,0≤x∧x≤255:=by
 intro x hx;simp only[c0d,List.mem_map] at hx;obtain ⟨c,_,rfl⟩:=hx;have:=c.toNat_lt;omega
def toB (l:List Int):List UInt8:=l.map fun y=>UInt8.ofNat (Int.toNat y)
theorem c1b (l:List UInt8):toB (c0d l)=l:=by
 simp only[toB,c0d,List.map_map]
 conv=>rhs;rw[←List.map_id l]
 apply List.map_congr_left;intro c _;simp
end Go.Flat
end
section
namespace Go.Flat
open Go.RowKit (Below)
open Go.ChangeShapes Go.WideShapes
section
variable {H:Type} {enc:TypeId×Value→H} {P:Program} {W W':World}
def t0g (P:Program) (ts:List TypeId):Bool:=ts.all fun t=>P.readableRec t&&decide (t<P.types.size)
theorem x1h (hl:laidOutB P=true) (hb:Below W.heap.size W W') {sp:Nat→Bool}:∀ {ts:List TypeId} {vs:List Value} {ds:List (DataW H)} {ps:List MemPlace},t0g P ts=true→DataW.TrodAll enc P W 0 (fun _=>true) true ts vs ds ps →
  (∀p∈ps,sp p.block=true)→DataW.TrodAll enc P W' 0 sp true ts vs ds ps:=by
 intro ts;induction ts with
 | nil=>intro vs ds ps _ h _;obtain ⟨rfl,rfl,rfl⟩:=trodAll_nil h;exact rfl
 | cons t ts ih =>
  intro vs ds ps hr h hsp;have hlt:=h.lt;obtain ⟨v,vs,d,ds,p,q,rfl,rfl,rfl,h1,h2⟩:=trodAll_cons h;simp only[t0g,List.all_cons,Bool.and_eq_true,decide_eq_true_eq] at hr;refine ⟨p,q,?_,ih hr.2 h2 (fun x hx=>hsp x (by simp[hx])),rfl⟩;exact WideElems.Trod_stays hl hr.1.1 hr.1.2 h1 (fun x hx=>hb.same (hlt x (by simp[hx]))) (fun x hx=>hsp x (by simp[hx]))
theorem post_law {f:Func} {s:ChangeSpec} {args:Array Value} {ds:List (DataW H)} {ps:List MemPlace} {tb:TypeId} (hl:laidOutB P=true) (hr:t0g P f.params.toList=true) (hv:s.vars=[])
  (hs:s.fn H ds = { results:=[.lit (.bool true)],args:=ds }) (ht:f.resultTypes = #[tb]) (hu:P.underlying tb=some .bool)
  (h:DataW.TrodAll enc P W 0 (fun _=>true) true f.params.toList args.toList ds ps) (hz:W.noneFrozen ps) (hb:Below W.heap.size W W') :
  s.post enc P f false true false false W args (.bool true) W':=by
 have hlt:=h.lt;have hW:DataW.Whole enc P f.params.toList s.vars false W args.toList ds [] (ps++[]):=⟨ps,[],h,by rw[hv];rfl,rfl,by rw[List.append_nil];exact hz,fun e=>by cases e⟩;have hall:∀sp:Nat→Bool,(∀p∈ps++[],sp p.block=true)→DataW.TrodAll enc P W' 0 sp true f.params.toList args.toList (s.fn H (ds++[])).args ps:=by
  intro sp hsp;rw[List.append_nil,hs];exact x1h hl hb hr h fun p hp=>hsp p (by simp[hp])
 have hres:∀(b:Nat) (sp:Nat→Bool) (hd:Bool),DataW.TrodAll enc P W' b sp hd f.resultTypes.toList ((Value.bool true).resultList f.resultTypes.size) (s.fn H (ds++[])).results []:=by
  intro b sp hd;rw[List.append_nil,hs,ht];exact ⟨[],[],⟨1,by simp[DataW.trod,hu,Value.cells]⟩,rfl,rfl⟩
 have hvars:∀sp:Nat→Bool,DataW.TrodVars enc P W' sp s.vars (s.fn H (ds++[])).vars []:=by
  intro sp;rw[List.append_nil,hs,hv];rfl
 have hin:∀p∈ps++[],p.block<W.heap.size:=fun p hp=>hlt p (by simpa using hp)
 refine ⟨ds,[],ps++[],[],ps,[],hW,hres _ _ _,hall _ fun p hp=>by simpa using hin p hp,hvars _,World.keptBut_mono (fun p hp=>⟨hp,?_⟩) (hb.frame (· ∈ ps++[])),fun _=>⟨?_,_,_,([]++ps)++[],⟨[]++ps,[],trodAll_append (hall _ fun _ _=>rfl) (hres _ _ _),hvars _,rfl,?_,fun e=>by cases e⟩,?_⟩⟩
 ·exact .inr (by simpa using hp)
 ·intro j t r h1 h2;rw[ht] at h1 h2;have hj:j=0:=by
   rcases Nat.eq_zero_or_pos j with q | q
   ·exact q
   ·rw[Array.getElem?_eq_none (by simp;omega)] at h1;cases h1
  subst hj;simp at h1;subst h1;have h3:r = .bool true:=by
   simp[Value.resultList] at h2;exact h2.symm
  subst h3;simp[Value.okWide,hu,Cell.okWide,Cell.ok]
 ·intro b off hp;have hp':MemPlace.cell b off∈ps:=by simpa using hp
  rw[hb.frozen (hlt _ hp')];exact hz b off hp'
 ·intro p hp _
  simpa using hp
end
theorem args_nil {P:Program} {W:World} {F:Fz}:RdB P (tupU []) () W F [] (cat []):=rfl
theorem l1y {P:Program} {W:World} {F:Fz} {t:Ty} {ts:List Ty} {x:El t} {xs:El (tupU ts)} {v:Value} {vs:List Value} (hf:formed t v) (hx:Rd P t x W F (one v)) (h:RdB P (tupU ts) xs W F [] (cat vs)) :
  RdB P (tupU (t::ts)) ((x,xs):El (tupU (t::ts))) W F [] (cat (v::vs)):=by
 refine ⟨[],[],rfl,RdB.congr t (f0g hf.2.2) (Rd.toB t hx),?_⟩;rw[g0k hf.2.2];exact h
end Go.Flat
end
section
namespace Go.Flat
open Go.RowKit (Below)
open Go.ChangeShapes Go.WideShapes
def litP:(c:Ty)→(DataW Unit→Option (El c))×(List (DataW Unit)→Option (El c))
 | .unit=>(fun _=>none,fun ds=>match ds with | []=>some () | _=>none)
 | .pair a b=>(fun _=>none,fun ds=>match ds with | d::r=>((litP a).1 d).bind fun x=>((litP b).2 r).map fun y=>(x,y) | []=>none)
 | .wrap e=>(fun d=>match d with | .agg ds=>(litP e).2 ds | _=>none,fun ds=>match ds with | [.agg ds']=>(litP e).2 ds' | _=>none)
 | .int k=>(fun d=>match d with | .lit (.int k' n)=>if k=k' then some n else none | _=>none,fun ds=>match ds with | [.lit (.int k' n)]=>if k=k' then some n else none | _=>none)
 | .bool=>(fun d=>match d with | .lit (.bool b)=>some b | _=>none,fun ds=>match ds with | [.lit (.bool b)]=>some b | _=>none)
 | _=>(fun _=>none,fun _=>none)
section
variable {P:Program} {w:World} {F:Fz}
theorem r1i:∀(c:Ty) (d:DataW Unit) (x:El c),(∀a b,c ≠ .pair a b)→c ≠ .unit→(litP c).2 [d]=some x→(litP c).1 d=some x:=by
 intro c d x h1 h2 h;cases c with
 | unit=>exact absurd rfl h2
 | pair a b=>exact absurd rfl (h1 a b)
 | wrap e =>
  simp only[litP] at h ⊢;split at h
  ·rename_i ds' e';injection e' with e' _;subst e';exact h
  ·cases h
 | int k =>
  simp only[litP] at h ⊢;split at h
  ·rename_i k' n e';injection e' with e' _;subst e';exact h
  ·cases h
 | bool =>
  simp only[litP] at h ⊢;split at h
  ·rename_i b e';injection e' with e' _;subst e';exact h
  ·cases h
 | _=>simp[litP] at h
def LitOk (P:Program) (w:World) (F:Fz) (self:TypeId→Ty→Bool):Prop :=
 ∀t c,self t c=true→∀n (cs:List Value) (d:DataW Unit) (p:List MemPlace),DataW.trod (fun _=>()) P w 0 (fun _=>true) false n t cs=some (d,p)→∀x:El c,(litP c).1 d=some x→cs.length=width c∧Rd P c x w F (fun j=>cs[j]?)
def c2t (self:TypeId→Ty→Bool):Prop:=∀t c,self t c=true→(∀a b,c ≠ .pair a b)∧c ≠ .unit
theorem w0h (d:Nat):c2t (readB P d):=by
 intro t c h;cases d with
 | zero=>cases h
 | succ d =>
  constructor
  ·rintro a b rfl;unfold readB at h;split at h<;>simp_all
  ·rintro rfl;unfold readB at h;split at h<;>simp_all
theorem v1k {self:TypeId→Ty→Bool} (hs:c2t self) (ih:LitOk P w F self) {n:Nat}:∀(fs:List Field) (e:Ty) (off:Nat) (cs:List Value) (ds:List (DataW Unit)) (x:El e),
  d0o P self fs e off=true→off+width e≤cs.length→ds.length=fs.length→(litP e).2 ds=some x →
  (∀(i:Nat) f d,fs[i]? = some f→ds[i]? = some d→∃p,DataW.trod (fun _=>()) P w 0 (fun _=>true) false n f.type ((cs.drop f.offset).take (P.cellsOf f.type))=some (d,p)) →
   Rd P e x w F (fun j=>cs[off+j]?):=by
 intro fs;induction fs with
 | nil =>
  intro e off cs ds x h _ _ _ _;cases e<;>(try (cases h));exact trivial
 | cons f r ihf =>
  intro e off cs ds x h hlen hds hx hf;cases ds with
  | nil=>simp at hds
  | cons d ds =>
  have step:∀(c:Ty) (y:El c),Nat.beq f.offset off=true→l0i P f.type c=true→self f.type c=true→off+width c≤cs.length→(litP c).1 d=some y→Rd P c y w F (fun j=>cs[off+j]?):=by
   intro c y k1 k2 k3 k4 k5;have k1:=Nat.eq_of_beq_eq_true k1;obtain ⟨p,hy⟩:=hf 0 f d rfl rfl;rw[k1,d0v k2] at hy;obtain ⟨_,h2⟩:=ih _ _ k3 _ _ _ _ hy y k5;refine Rd.congr c (fun j hj => ?_) h2;rw[List.getElem?_take,if_pos hj,List.getElem?_drop]
  cases r with
  | nil =>
   simp only[d0o,Bool.and_eq_true] at h;have:ds=[]:=by cases ds with | nil=>rfl | cons a b=>simp at hds
   subst this;obtain ⟨n1,n2⟩:=hs _ _ h.2.2;exact step _ x h.1 h.2.1 h.2.2 hlen (r1i _ d x n1 n2 hx)
  | cons g r =>
   cases e with
   | pair a b =>
    simp only[d0o,Bool.and_eq_true] at h;simp only[width] at hlen;simp only[litP] at hx;cases h1:(litP a).1 d with
    | none=>rw[h1] at hx;cases hx
    | some y =>
     rw[h1] at hx;simp only[Option.bind_some,Option.map_eq_some_iff] at hx;obtain ⟨z,h2,rfl⟩:=hx;refine ⟨step a y h.1 h.2.1 h.2.2.1 (by omega) h1,?_⟩;have:=ihf b (off+width a) cs ds z h.2.2.2 (by omega) (by simpa using hds) h2 (fun i f' d' hi hd=>hf (i+1) f' d' (by simpa using hi) (by simpa using hd));exact Rd.congr b (fun j _=>by rw[Nat.add_assoc]) this
   | _=>simp[d0o] at h
theorem z1u {self:TypeId→Ty→Bool} (hs:c2t self) (ih:LitOk P w F self) {el:TypeId} {m:Nat}:∀(n:Nat) (e:Ty) (i:Nat) (cs:List Value) (ds:List (DataW Unit)) (x:El e),
  e0d P self el n e=true→i*P.cellsOf el+width e≤cs.length→ds.length=n→(litP e).2 ds=some x →
  (∀(j:Nat) d,ds[j]? = some d→∃p,DataW.trod (fun _=>()) P w 0 (fun _=>true) false m el ((cs.drop ((i+j)*P.cellsOf el)).take (P.cellsOf el))=some (d,p)) →
   Rd P e x w F (fun j=>cs[i*P.cellsOf el+j]?):=by
 intro n;induction n with
 | zero =>
  intro e i cs ds x h _ _ _ _;cases e<;>(try (cases h));exact trivial
 | succ n ihn =>
  intro e i cs ds x h hlen hds hx hf;cases ds with
  | nil=>simp at hds
  | cons d ds =>
  have step:∀(c:Ty) (y:El c),l0i P el c=true→self el c=true→(litP c).1 d=some y→Rd P c y w F (fun j=>cs[i*P.cellsOf el+j]?):=by
   intro c y k2 k3 k5;obtain ⟨p,hy⟩:=hf 0 d rfl;obtain ⟨_,h2⟩:=ih _ _ k3 _ _ _ _ hy y k5;refine Rd.congr c (fun j hj => ?_) h2;rw[List.getElem?_take,if_pos (by rw[d0v k2];exact hj),List.getElem?_drop,Nat.add_zero]
  cases n with
  | zero =>
   simp only[e0d,Bool.and_eq_true] at h;have:ds=[]:=by cases ds with | nil=>rfl | cons a b=>simp at hds
   subst this;obtain ⟨n1,n2⟩:=hs _ _ h.2;exact step _ x h.1 h.2 (r1i _ d x n1 n2 hx)
  | succ n =>
   cases e with
   | pair a b =>
    simp only[e0d,Bool.and_eq_true] at h;have hc:=d0v h.1;simp only[width] at hlen;simp only[litP] at hx;cases h1:(litP a).1 d with
    | none=>rw[h1] at hx;cases hx
    | some y =>
     rw[h1] at hx;simp only[Option.bind_some,Option.map_eq_some_iff] at hx;obtain ⟨z,h2,rfl⟩:=hx;have e1:(i+1)*P.cellsOf el=i*P.cellsOf el+width a:=by rw[Nat.succ_mul,hc]
     refine ⟨step a y h.1 h.2.1 h1,?_⟩;have:=ihn b (i+1) cs ds z h.2.2 (by omega) (by simpa using hds) h2 (fun j d' hd=>by
      have:=hf (j+1) d' (by simpa using hd)
      rwa [show i+(j+1)=i+1+j by omega] at this)
     refine Rd.congr b (fun j _ => ?_) this;rw[e1,Nat.add_assoc]
   | _=>simp[e0d] at h
theorem lit_ok:∀d:Nat,LitOk P w F (readB P d):=by
 intro d;induction d with
 | zero=>intro t c h;cases h
 | succ d ih =>
  intro t c h n cs dd p hy x hx;unfold readB at h;split at h
  ·rename_i hu;obtain ⟨b,rfl,e⟩:=DataW.trod_bool hu hy;injection e with e1 _;subst e1;simp only[litP,Option.some.injEq] at hx;subst hx;exact ⟨rfl,rfl⟩
  ·rename_i k k' hu;obtain ⟨m,rfl,e,_⟩:=DataW.trod_int hu hy;injection e with e1 _;subst e1;have:k=k':=by simpa using h
   subst this;simp only[litP,if_true,Option.some.injEq] at hx;subst hx;exact ⟨rfl,rfl⟩
  ·simp[litP] at hx
  ·simp[litP] at hx
  ·rename_i fs e hu;simp only[Bool.and_eq_true] at h;obtain ⟨xs,m,rfl,e1,hl,hxs,hget⟩:=DataW.trod_struct hu hy;injection e1 with e1 _;subst e1;have hcl:cs.length=width e:=by rw[hl,d0v h.1];rfl
   simp only[litP] at hx;refine ⟨hcl,?_⟩;have:=v1k (F:=F) (w0h d) ih (n:=m) fs.toList e 0 cs (xs.map (·.1)) x h.2 (by omega) (by simp[hxs]) hx (fun i f d' hi hd=>by
    have hi':fs[i]? = some f:=by simpa using hi
    have h1:=hget i f hi';rw[List.getElem?_map] at hd;cases hxi:xs[i]? with
    | none=>rw[hxi] at hd;cases hd
    | some y =>
     rw[hxi] at hd h1;simp only[Option.map_some,Option.some.injEq] at hd;subst hd
     exact ⟨y.2,h1⟩)
   exact Rd.congr e (fun j _=>by rw[Nat.zero_add]) this
  ·rename_i m el e hu;simp only[Bool.and_eq_true] at h;obtain ⟨xs,q,rfl,e1,hl,hxs,hget⟩:=DataW.trod_array hu hy;injection e1 with e1 _;subst e1;have hcl:cs.length=width e:=by rw[hl,d0v h.1];rfl
   simp only[litP] at hx;refine ⟨hcl,?_⟩;have:=z1u (F:=F) (w0h d) ih (m:=q) m e 0 cs (xs.map (·.1)) x h.2 (by omega) (by simp[hxs]) hx (fun j d' hd=>by
    rw[List.getElem?_map] at hd;cases hxi:xs[j]? with
    | none=>rw[hxi] at hd;cases hd
    | some y =>
     have hlt:j<xs.length:=(List.getElem?_eq_some_iff.1 hxi).1;have h1:=hget j (by omega);rw[hxi] at hd h1;simp only[Option.map_some,Option.some.injEq] at hd;subst hd;rw[Nat.zero_add]
     exact ⟨y.2,h1⟩)
   exact Rd.congr e (fun j _=>by rw[Nat.zero_mul,Nat.zero_add]) this
  ·cases h
theorem o1x:∀ {l:List (Nat×((t:Ty)×El t))} {g:Nat} {x:(t:Ty)×El t},g1h l g=some x→(g,x)∈l:=by
 intro l;induction l with
 | nil=>intro g x h;cases h
 | cons y l ih =>
  intro g x h;obtain ⟨m,z⟩:=y;unfold g1h at h;cases hb:Nat.beq m g with
  | true =>
   rw[hb] at h;simp only[cond_true,Option.some.injEq] at h;subst h;rw[Nat.eq_of_beq_eq_true hb];simp
  | false =>
   rw[hb] at h;exact List.mem_cons_of_mem _ (ih h)
theorem g1b {l:List (String×DataW Unit)} (h:∃ps,DataW.LaidVars P w l ps) {nm:String} {d:DataW Unit} (hm:(nm,d)∈l) {g:Nat} {t:TypeId} (hg:P.globalNamed nm=some g) (ht:(P.globals[g]?).map (·.type)=some t)
  {c:Ty} {dep:Nat} (hB:readB P dep t c=true) {x:El c} (hx:(litP c).1 d=some x) (hw:0<width c):g<w.heap.size∧Rd P c x w F (mem w g 0):=by
 obtain ⟨ps,h⟩:=h;induction l generalizing ps with
 | nil=>cases hm
 | cons y l ih =>
  obtain ⟨n',d'⟩:=y;obtain ⟨g',t',cs,fuel,p,q,k1,k2,k3,k4,k5,_⟩:=h;rcases List.mem_cons.1 hm with e | hm
  ·injection e with e1 e2;subst e1 e2;rw[hg] at k1;injection k1 with k1;subst k1;rw[ht] at k2;injection k2 with k2;subst k2;obtain ⟨z1,z2⟩:=lit_ok (F:=F) dep t c hB fuel cs.toList d p k4 x hx;have hv:∀j,w.cell? ⟨g,j,none⟩=cs[j]? := fun j=>World.var?_cell hg k3 j
   refine ⟨?_,Rd.congr c (fun j _ => ?_) z2⟩
   ·have h0:=hv 0
    have : (0 : Nat) < cs.size := by have : cs.toList.length = cs.size := by simp
                                     omega
    rw[Array.getElem?_eq_getElem this] at h0;unfold World.cell? at h0;split at h0
    ·rename_i hb;exact b0p? hb
    ·cases h0
   ·show w.cell? ⟨g,0+j,none⟩=_;rw[Nat.zero_add,hv j];simp
  ·exact ih hm q k5
end
end Go.Flat
end
section
namespace Go.Flat
open Go.RowKit
theorem d0w (x:List UInt8):(b0k x).length=x.length:=by simp[b0k]
theorem w0q (x:List UInt8):∀u∈b0k x,u.oneCell'=true:=by
 intro u hu;simp only[b0k,List.mem_map] at hu;obtain ⟨c,_,rfl⟩:=hu;rfl
theorem n0t {P:Program} (g o:Nat) (t:TypeId) {m:Nat×Nat}:∀(vs:List Value) (i:Nat) (cur:Array Value) (w:World),(m.1=m.2∨m.2≤o)→w.heap[g]? = some (.cells cur t m)→o+i+vs.length≤cur.size→(∀v∈vs,v.oneCell'=true) →
  (storeCells ⟨g,o,none⟩ vs i).run P w = .ok () (w.setRow g (cur.toList.take (o+i)++vs++cur.toList.drop (o+i+vs.length)).toArray)
 | [],i,cur,w,_,hg,_,_=>by
  simp only[storeCells,List.append_nil,List.length_nil,Nat.add_zero,List.take_append_drop,Array.toArray_toList];rw[setRow_self w g cur t m hg];rfl
 | v::rest,i,cur,w,hm,hg,hl,h1=>by
  have hi:o+i<cur.size:=by simp at hl;omega
  have hadd:(⟨g,o,none⟩:Addr).add i=⟨g,o+i,none⟩:=by unfold Addr.add;split<;>simp_all
  have hcell:w.cell? ⟨g,o+i,none⟩=some cur[o+i]:=by simp[World.cell?,hg,hi]
  have hfro:w.frozen? ⟨g,o+i,none⟩=false:=by
   obtain ⟨lo,hi2⟩:=m;simp only[World.frozen?,hg];have hno:¬(lo≤o+i∧o+i<hi2):=by
    rcases hm with h | h<;>simp only at h<;>omega
   by_cases h2:lo≤o+i
   ·have h3:¬(o+i<hi2):=fun k=>hno ⟨h2,k⟩
    simp[h3]
   ·simp[h2]
  have hst:(store ((⟨g,o,none⟩:Addr).add i) v).run P w = .ok () (w.setRow g (cur.setIfInBounds (o+i) v)):=by
   rw[hadd,run_store P w _ v _ (h1 v (by simp)),hcell];simp[hfro,setCell_eq_setRow w g (o+i) cur t m v hg]
  have ih:=n0t (P:=P) g o t (m:=m) rest (i+1) (cur.setIfInBounds (o+i) v) (w.setRow g (cur.setIfInBounds (o+i) v)) hm (setRow_heap w g cur _ t _ hg) (by simp at hl ⊢;omega) (fun x hx=>h1 x (by simp[hx]));simp only[storeCells,Sem.run_bind,hst,Result.andThen_ok,ih,setRow_setRow];congr 3;have e:=list_seg_step cur.toList (o+i) v rest (by simp at hl ⊢;omega)
  simpa [Array.toList_setIfInBounds,Nat.add_assoc] using e
section
variable {P:Program} {W:World} {e:TypeId}
theorem f1j {ts:Array TypeId} {t ty:TypeId} {i:TypeInfo} (ht0:ts[0]? = some t) (ht1:a1p P ts) (ht:P.underlying t=some (.slice e)) (hi:P.info? e=some i) (hz:i.zero=some (.int .u8 0)) (hs:i.size=1) (hb:i.bytes=1)
  {x y:List UInt8} {s u:Value} (hrow:RowU e u x W) (hsrc:Src P W 1 s y.length (b0k y)) (hlen:x.length+y.length≤140737488355328) :
  ∃u' W',(Builtin.append_ ts ty #[u,s]).run P W = .ok u' W'∧RowU e u' (x++y) W'∧W.grownBy W' u.ownBlock∧(u'.ownBlock=u.ownBlock∨u'.ownBlock=some W.heap.size)∧∃a n c,u' = .slice a n c:=by
 have hsrc':Src P W i.size s y.length (b0k y):=by rw[hs];exact hsrc
 have hmax:x.length+y.length≤maxLen:=by simp only[maxLen];omega
 have grow:∀ {a:Option Addr} {cap:Nat},u = .slice a x.length cap→cap<x.length+y.length →
   (∀w':World,(∀q,w'.cell? q=W.cell? q)→(Builtin.firstCells i.size x.length (.slice a x.length cap)).run P w' = .ok (b0k x).toArray w') →
   ∃u' W',(Builtin.append_ ts ty #[u,s]).run P W = .ok u' W'∧RowU e u' (x++y) W'∧W.grownBy W' u.ownBlock∧(u'.ownBlock=u.ownBlock∨u'.ownBlock=some W.heap.size)∧∃a n c,u' = .slice a n c:=by
  intro a cap hu hcap hold;have hrun:=m0s (ty:=ty) ht0 ht1 ht hi hz hsrc' hcap (by rw[hb];decide) (by rw[hb];omega) hold;rw[←hu] at hrun;have hge:=grownCap_ge W (x.length+y.length) cap e;have hlist:(d0d W (Value.int IntKind.u8 0).cells (b0k x) (b0k y) (x.length+y.length) cap e).toList=b0k x++(b0k y++(Builtin.zeroCells (Value.int IntKind.u8 0).cells (grownCap W (x.length+y.length) cap e-(x.length+y.length))).toList):=by
   simp[d0d]
  have hz1:(Value.int IntKind.u8 0).cells.size=1:=rfl;refine ⟨_,_,hrun,.inr ⟨W.heap.size,_,_,(0,0),by rw[List.length_append],m0a W.drew _,.inl rfl,by rw[List.length_append];exact hge,⟨grownCap_le_maxLen W _ cap e hmax,by omega⟩,?_,?_⟩,
   ⟨rfl,rfl,rfl,by simp,fun k hk _=>i0o W.drew _ k hk⟩,.inr rfl,_,_,_,rfl⟩
  ·have hzl:(Builtin.zeroCells (Value.int IntKind.u8 0).cells (grownCap W (x.length+y.length) cap e-(x.length+y.length))).toList.length=grownCap W (x.length+y.length) cap e-(x.length+y.length):=by
    rw[Array.length_toList,size_zeroCells,hz1,Nat.mul_one]
   have hsz:=congrArg List.length hlist;rw[List.length_append,List.length_append,d0w,d0w,hzl] at hsz;rw[←Array.length_toList (xs:=d0d W (Value.int IntKind.u8 0).cells (b0k x) (b0k y) (x.length+y.length) cap e),hsz];omega
  ·rw[hlist,←List.append_assoc];have:(x++y).length=(b0k x++b0k y).length:=by simp[d0w]
   rw[this,List.take_left];simp[b0k]
 rcases hrow with ⟨rfl,rfl⟩ | ⟨g,cap,cur,m,rfl,hg,hmk,hxc,hcm,hcs,htake⟩
 ·rcases Nat.eq_zero_or_pos y.length with hy | hy
  ·have hyn:y=[]:=List.eq_nil_of_length_eq_zero hy;subst hyn;have hrun:=f0v (P:=P) (W:=W) (W':=W) (ty:=ty) (n:=0) (cap:=0) (b:=none) ht0 ht1 ht hi hsrc' (by simp) (fun _ h=>by cases h) (fun _=>rfl);exact ⟨_,W,hrun,.inl ⟨rfl,rfl⟩,⟨rfl,rfl,rfl,Nat.le_refl _,fun _ _ _=>rfl⟩,.inl rfl,_,_,_,rfl⟩
  ·refine grow (a:=none) (cap:=0) rfl (by simpa using hy) (fun w' _=>by simp[Builtin.firstCells,b0k])
 ·by_cases hfit:x.length+y.length≤cap
  ·have hle:x.length+(b0k y).length≤cur.size:=by rw[d0w,hcs];exact hfit
   have hst:=n0t (P:=P) g x.length e (b0k y) 0 cur W hmk hg (by simpa using hle) (w0q y);simp only[Nat.add_zero] at hst;have hrun:=f0v (P:=P) (W:=W) (ty:=ty) (n:=x.length) (cap:=cap) (b:=some ⟨g,0,none⟩) ht0 ht1 ht hi hsrc' hfit
    (fun ad hd=>by injection hd with hd;subst hd;rw[hs,addr_add,Nat.zero_add,Nat.mul_one];exact hst) (fun h=>by cases h)
   refine ⟨_,_,hrun,.inr ⟨g,cap,_,m,by rw[List.length_append],setRow_heap W g cur _ e _ hg,hmk.imp id (fun q=>by rw[List.length_append];omega),by rw[List.length_append];exact hfit,hcm,?_,?_⟩,
    ⟨rfl,rfl,rfl,by simp,fun k _ hk=>setRow_other W g k _ (fun q=>hk (by rw[q];rfl))⟩,.inl rfl,_,_,_,rfl⟩
   ·simp only[List.size_toArray,List.length_append,List.length_take,List.length_drop,Array.length_toList];omega
   ·rw[htake];have:(x++y).length=(b0k x++b0k y).length:=by simp[d0w]
    rw[this,List.take_left];simp[b0k]
  ·refine grow (a:=some ⟨g,0,none⟩) (cap:=cap) rfl (by omega) (fun w' hw' => ?_);refine run_firstCells_some w' i.size _ ⟨g,0,none⟩ _ cap (b0k x) (by rw[hs,d0w,Nat.mul_one]) (fun j v hv => ?_);rw[hw',addr_add,Nat.zero_add,cell_of_row W g j cur e m hg];rw[←htake,List.getElem?_take] at hv;split at hv
   ·rw[←Array.getElem?_toList];exact hv
   ·cases hv
theorem n0p {ops:Array Oper} {rest:List Oper} {o:Oper} {a:Act} {Q:Exit→Act→World→Prop} (hgd:o.guard=none) (p q:Operand) {ts:Array TypeId} {t:TypeId} {i:TypeInfo}
  (ho:o.op = .call { callee := .builtin .append,args := #[p,q],argTypes:=ts }) (ht0:ts[0]? = some t) (ht1:a1p P ts) (ht:P.underlying t=some (.slice e)) (hi:P.info? e=some i) (hz:i.zero=some (.int .u8 0)) (hs:i.size=1) (hb:i.bytes=1)
  {x y:List UInt8} {s u:Value} (hp:a.eval p=u) (hq:a.eval q=s) (hrow:RowU e u x W) (hsrc:Src P W 1 s y.length (b0k y)) (hlen:x.length+y.length≤140737488355328)
  (hK:∀b n c W',RowU e (.slice b n c) (x++y) W'→W.grownBy W' u.ownBlock→((Value.slice b n c).ownBlock=u.ownBlock∨(Value.slice b n c).ownBlock=some W.heap.size)→wpList P ops Q rest (a.put o.dst (.slice b n c)) W') :
  wpList P ops Q (o::rest) a W:=by
 refine wpList_plain hgd fun K hK' => ?_
 obtain ⟨u',W',hr,h2,h3,h4,b,n,c,rfl⟩:=f1j (ty:=o.type) ht0 ht1 ht hi hz hs hb hrow hsrc hlen;unfold Oper.wp execOp;simp only[ho,resolve,invoke,builtin,Sem.run_bind,Sem.run_pure,Result.andThen_ok,List.map_toArray,List.map_cons,List.map_nil,hp,hq,hr];exact hK' _ _ (hK b n c W' h2 h3 h4)
end
end Go.Flat
end
section
set_option linter.unusedVariables false
namespace Go.Flat
open Go.Shelf Go.RowKit Go.Proofs
structure But (O:Nat→Prop) (w w':World):Prop where
 os:w'.os=w.os
 tape:w'.tape=w.tape
 output:w'.output=w.output
 size:w.heap.size≤w'.heap.size
 same:∀k,k<w.heap.size→¬O k→w'.heap[k]? = w.heap[k]?
theorem But.refl (O:Nat→Prop) (w:World):But O w w:=⟨rfl,rfl,rfl,Nat.le_refl _,fun _ _ _=>rfl⟩
theorem But.grown {O:Nat→Prop} {w w1 w2:World} {row:Option Nat} (h:But O w w1) (hg:w1.grownBy w2 row) (hr:∀k,row=some k→O k∨w.heap.size≤k):But O w w2 :=
 ⟨hg.os.trans h.os,hg.tape.trans h.tape,hg.output.trans h.output,Nat.le_trans h.size hg.size,fun k hk ho=>(hg.block k (Nat.lt_of_lt_of_le hk h.size) (fun e=>by
  rcases hr k e.symm with q | q
  ·exact ho q
  ·omega)).trans (h.same k hk ho)⟩
theorem But.alloc {O:Nat→Prop} {w w1:World} (h:But O w w1) (o:Obj):But O w (w1.alloc o):=h.grown (World.grownBy_alloc w1 o none) (fun _ e=>by cases e)
theorem But.setCell {O:Nat→Prop} {w w1:World} (h:But O w w1) {b:Nat} (hb:O b∨w.heap.size≤b) (j:Nat) (v:Value):But O w (w1.setCell ⟨b,j,none⟩ v) :=
 h.grown (row:=some b) ⟨rfl,rfl,rfl,by simp[World.setCell],fun k _ hk=>Below.heap_setCell _ _ _ _ (fun e=>hk (by simp[e]))⟩ (fun k e=>by cases e;exact hb)
theorem But.drew {O:Nat→Prop} {w w1:World} (h:But O w w1):But O w w1.drew:=⟨h.os,h.tape,h.output,h.size,h.same⟩
variable {P:Program} {ρ:Ren}
structure BldL (P:Program) (ρ:Ren):Prop where
 mixed:P.follows .mixedOrders=true
 e240:∀args w,(callFunc (ρ.f 240) args).run P w = .ok (.enter (ρ.f 240) args) w
 copy:∀(b:Nat) (p v:Value) (w:World),(p = .pointer none∨p = .pointer (some ⟨b,0,none⟩))→w.heap[b]? = some (.cells #[p,v] (ρ.t 72) (0,0)) →
  Calls P (ρ.f 240) #[.pointer (some ⟨b,0,none⟩)] w fun e w'=>e = .returned (.tuple #[])∧w'.heap[b]? = some (.cells #[.pointer (some ⟨b,0,none⟩),v] (ρ.t 72) (0,0))∧But (· = b) w w'∧w'.heap.size=w.heap.size
 t3:P.underlying (ρ.t 3)=some (TypeDesc.int IntKind.i64)
 a3:∀w,(isAgg (ρ.t 3)).run P w = .ok false w
 z3:∀w,(Go.sizeOf (ρ.t 3)).run P w = .ok 1 w
 v3:∀w,(zeroValue (ρ.t 3)).run P w = .ok (Value.int IntKind.i64 0) w
 t4:P.underlying (ρ.t 4)=some (TypeDesc.bool)
 a4:∀w,(isAgg (ρ.t 4)).run P w = .ok false w
 z4:∀w,(Go.sizeOf (ρ.t 4)).run P w = .ok 1 w
 v4:∀w,(zeroValue (ρ.t 4)).run P w = .ok (Value.bool false) w
 t5:P.underlying (ρ.t 5)=some (TypeDesc.int IntKind.u8)
 a5:∀w,(isAgg (ρ.t 5)).run P w = .ok false w
 z5:∀w,(Go.sizeOf (ρ.t 5)).run P w = .ok 1 w
 v5:∀w,(zeroValue (ρ.t 5)).run P w = .ok (Value.int IntKind.u8 0) w
 t9:P.underlying (ρ.t 9)=some (TypeDesc.string)
 a9:∀w,(isAgg (ρ.t 9)).run P w = .ok false w
 z9:∀w,(Go.sizeOf (ρ.t 9)).run P w = .ok 1 w
 v9:∀w,(zeroValue (ρ.t 9)).run P w = .ok (Value.string { data := #[] }) w
 t37:P.underlying (ρ.t 37)=some (TypeDesc.slice (ρ.t 5))
 a37:∀w,(isAgg (ρ.t 37)).run P w = .ok false w
 z37:∀w,(Go.sizeOf (ρ.t 37)).run P w = .ok 1 w
 v37:∀w,(zeroValue (ρ.t 37)).run P w = .ok (Value.slice none 0 0) w
 t70:P.underlying (ρ.t 70)=some (TypeDesc.pointer (ρ.t 72))
 a70:∀w,(isAgg (ρ.t 70)).run P w = .ok false w
 z70:∀w,(Go.sizeOf (ρ.t 70)).run P w = .ok 1 w
 v70:∀w,(zeroValue (ρ.t 70)).run P w = .ok (Value.pointer none) w
 t72 : P.underlying (ρ.t 72) = some (TypeDesc.struct #[{ name := "addr", type := ρ.t 70, offset := 0, embedded := false, tag := "", pkgPath := "strings", byteOffset := 0 }, { name := "buf", type := ρ.t 37, offset := 1, embedded := false, tag := "", pkgPath := "strings", byteOffset := 8 }])
 a72:∀w,(isAgg (ρ.t 72)).run P w = .ok true w
 z72:∀w,(Go.sizeOf (ρ.t 72)).run P w = .ok 2 w
 v72:∀w,(zeroValue (ρ.t 72)).run P w = .ok (Value.agg #[Value.pointer none,Value.slice none 0 0]) w
theorem bld_copy {P:Program} {F T:Nat} (h1:∀(b:Nat) (w:World),w.cell? ⟨b,0,none⟩=some (.pointer (some ⟨b,0,none⟩))→Calls P F #[.pointer (some ⟨b,0,none⟩)] w fun e w'=>e = .returned (.tuple #[])∧w'=w)
  (h2:∀(b:Nat) (w:World),w.cell? ⟨b,0,none⟩=some (.pointer none)→w.shape? b=some (T,2)→w.frozen? ⟨b,0,none⟩=false→Calls P F #[.pointer (some ⟨b,0,none⟩)] w fun e w'=>e = .returned (.tuple #[])∧w'=w.setCell ⟨b,0,none⟩ (.pointer (some ⟨b,0,none⟩)))
  (b:Nat) (p v:Value) (w:World) (hp:p = .pointer none∨p = .pointer (some ⟨b,0,none⟩)) (hb:w.heap[b]? = some (.cells #[p,v] T (0,0))) :
  Calls P F #[.pointer (some ⟨b,0,none⟩)] w fun e w'=>e = .returned (.tuple #[])∧w'.heap[b]? = some (.cells #[.pointer (some ⟨b,0,none⟩),v] T (0,0))∧But (· = b) w w'∧w'.heap.size=w.heap.size:=by
 have c0:w.cell? ⟨b,0,none⟩=some p:=by rw[Lib.cell_of_heap hb];rfl
 rcases hp with rfl | rfl
 ·refine (h2 b w c0 (by simp[World.shape?,hb]) (Lib.frozen_of_heap hb 0)).mono ?_;rintro e w' ⟨rfl,rfl⟩;refine ⟨rfl,?_,(But.refl (· = b) w).setCell (.inl rfl) 0 _,by simp[World.setCell]⟩;simp[World.setCell,Array.getElem?_modify,hb]
 ·refine (h1 b w c0).mono ?_;rintro e w' ⟨rfl,rfl⟩;exact ⟨rfl,hb,But.refl _ _,rfl⟩
theorem c2b {T e b:Nat} {x:List UInt8} {v v':Value} {w w1 w2:World} {bs:List Nat} (hTe:T≠e) (hb1:w1.heap[b]? = some (.cells #[.pointer (some ⟨b,0,none⟩),v] T (0,0))) (hbut:But (· = b) w w1)
  (hrow:RowU e v' x w2) (hg:w1.grownBy w2 v.ownBlock) (hat:v'.ownBlock=v.ownBlock∨v'.ownBlock=some w1.heap.size) (hne:v.ownBlock≠some b) (hbs:∀k,v.ownBlock=some k→k∈bs) (hbb:b∈bs) :
  ∃bs',p0e T e b x (w2.setCell ⟨b,1,none⟩ v') bs'∧(∀k∈bs',k∈bs∨w.heap.size≤k)∧But (· ∈ bs) w (w2.setCell ⟨b,1,none⟩ v'):=by
 have hlt:b<w1.heap.size:=b0p? hb1;have hb2:w2.heap[b]? = some (.cells #[.pointer (some ⟨b,0,none⟩),v] T (0,0)):=by
  rw[hg.block b hlt (fun e=>hne e.symm)];exact hb1
 have hne':v'.ownBlock≠some b:=by
  rcases hat with h | h
  ·rw[h];exact hne
  ·rw[h];intro e;injection e with e;omega
 have hb3:(w2.setCell ⟨b,1,none⟩ v').heap[b]? = some (.cells #[.pointer (some ⟨b,0,none⟩),v'] T (0,0)):=by
  simp[World.setCell,Array.getElem?_modify,hb2]
 have hother:∀g,g≠b→(w2.setCell ⟨b,1,none⟩ v').heap[g]? = w2.heap[g]? := fun g hgb=>Below.heap_setCell _ _ _ _ (fun e=>hgb (by simp[e]))
 have hloc:∀k,v'.ownBlock=some k→k∈bs∨w.heap.size≤k:=by
  intro k hk;rcases hat with h | h
  ·exact .inl (hbs k (h ▸ hk))
  ·rw[h] at hk;injection hk with hk;have:=hbut.size;exact .inr (by omega)
 have hkeep:But (· ∈ bs) w (w2.setCell ⟨b,1,none⟩ v'):=by
  have h1:But (· ∈ bs) w w1:=⟨hbut.os,hbut.tape,hbut.output,hbut.size,fun k hk ho=>hbut.same k hk (fun e=>ho (e ▸ hbb))⟩;exact (h1.grown hg (fun k hk => .inl (hbs k hk))).setCell (.inl hbb) 1 _
 refine ⟨b::v'.ownBlock.toList,⟨_,_,.inr rfl,hb3,hrow.kept fun g hgo=>hother g (fun e=>hne' (by rw[hgo,e])),hne',rfl⟩,fun k hk => ?_,hkeep⟩;rcases List.mem_cons.1 hk with rfl | hk
 ·exact .inl hbb
 ·exact hloc k (by simpa using hk)
set_option maxHeartbeats 2000000 in
set_option maxRecDepth 100000 in
theorem l1a (L:BldL P ρ) (X:Builder.Extra P ρ) (f167:P.funcs[ρ.f 167]? = some (Body.n167 ρ)) {b:Nat} {x:List UInt8} {bs:List Nat} (c:UInt8) (w:World) (h:p0e (ρ.t 72) (ρ.t 5) b x w bs) (hlen:x.length+1≤140737488355328) :
  Calls P (ρ.f 167) #[.pointer (some ⟨b,0,none⟩),.int .u8 (c.toNat:Int)] w fun e w'=>e = .returned .nilIface∧∃bs',p0e (ρ.t 72) (ρ.t 5) b (x++[c]) w' bs'∧(∀k∈bs',k∈bs∨w.heap.size≤k)∧But (· ∈ bs) w w':=by
 obtain ⟨p,v,hp,hbk0,hrow0,hne0,rfl⟩:=h;obtain ⟨i0,hi,hz0,hz1,hz2⟩:=info_parts X.infoByte;have mixed:=L.mixed;have t72:=L.t72;have a72:=L.a72;have z72:=L.z72;have v72:=L.v72;have u72:=run_underlying L.t72;have t70:=L.t70;have a70:=L.a70;have z70:=L.z70;have v70:=L.v70;have u70:=run_underlying L.t70;have t5:=L.t5;have a5:=L.a5;have z5:=L.z5;have v5:=L.v5;have u5:=run_underlying L.t5;have t37:=L.t37;have a37:=L.a37;have z37:=L.z37;have v37:=L.v37;have u37:=run_underlying L.t37;have t9:=L.t9;have a9:=L.a9;have z9:=L.z9;have v9:=L.v9;have u9:=run_underlying L.t9
 have t4:=L.t4;have a4:=L.a4;have z4:=L.z4;have v4:=L.v4;have u4:=run_underlying L.t4;have e240:=L.e240
 go_enter f167,Body.n167_ntmps ρ
 go_wp2_with (go_at_fn (ρ.f 240);refine (L.copy b p v w hp hbk0).mono ?_)
 rintro e w1 ⟨rfl,hbk,hbut,-⟩;have hlt:b<w1.heap.size:=b0p? hbk;have hrow:RowU (ρ.t 5) v x w1:=hrow0.kept fun g hg=>hbut.same g (hrow0.lt g hg) (fun e=>hne0 (by rw[hg,e]))
 have c0:w1.cell? ⟨b,0,none⟩=some (.pointer (some ⟨b,0,none⟩)):=by rw[Lib.cell_of_heap hbk];rfl
 have c1:w1.cell? ⟨b,1,none⟩=some v:=by rw[Lib.cell_of_heap hbk];rfl
 have hsrc:Src P (w1.alloc (.cells #[.int .u8 (c.toNat:Int)] (ρ.t 5))) 1 (.slice (some ⟨w1.heap.size,0,none⟩) 1 1) 1 (b0k [c]) :=
  ⟨rfl,fun w' hw'=>run_firstCells_some w' 1 1 ⟨w1.heap.size,0,none⟩ 1 1 (b0k [c]) rfl (fun j u hu=>by
   rw[hw',addr_add,Nat.zero_add,cell_of_row _ _ j _ _ _ (m0a w1 _)]
   match j,hu with
   | 0,hu=>simpa [b0k] using hu),rfl,w0q [c]⟩
 go_wp2_with (at_builtin;refine n0p (x:=x) (y:=[c]) rfl _ _ rfl rfl (fun u hu => .inl ⟨_,by cases hu;exact L.t37⟩) L.t37 hi hz0 hz1 hz2 rfl rfl (hrow.kept fun g hg=>i0o _ _ g (hrow.lt g hg)) hsrc (by simpa using hlen) ?_)
 intro a n q w2 hown' hgrow hat;have hbka:(w1.alloc (.cells #[.int .u8 (c.toNat:Int)] (ρ.t 5))).heap[b]? = some (.cells #[.pointer (some ⟨b,0,none⟩),v] (ρ.t 72) (0,0)):=(i0o _ _ b hlt).trans hbk;have hb2:w2.heap[b]? = some (.cells #[.pointer (some ⟨b,0,none⟩),v] (ρ.t 72) (0,0)):=by
  rw[hgrow.block b (b0p? hbka) (fun e=>hne0 e.symm)];exact hbka
 have d0:w2.cell? ⟨b,0,none⟩=some (.pointer (some ⟨b,0,none⟩)):=by rw[Lib.cell_of_heap hb2];rfl
 have d1:w2.cell? ⟨b,1,none⟩=some v:=by rw[Lib.cell_of_heap hb2];rfl
 have f1:w2.frozen? ⟨b,1,none⟩=false:=Lib.frozen_of_heap hb2 1
 go_wp2
 go_ret
 exact ⟨rfl,c2b X.neB5 hbka (hbut.alloc _) hown' hgrow (by rw[World.size_alloc];exact hat) hne0 (fun k hk=>by simp[hk]) (by simp)⟩
set_option maxHeartbeats 2000000 in
set_option maxRecDepth 100000 in
theorem b1k (L:BldL P ρ) (X:Builder.Extra P ρ) (f166:P.funcs[ρ.f 166]? = some (Body.n166 ρ)) {b:Nat} {x:List UInt8} {bs:List Nat} (s:List UInt8) (w:World) (h:p0e (ρ.t 72) (ρ.t 5) b x w bs) (hlen:x.length+s.length≤140737488355328) :
  Calls P (ρ.f 166) #[.pointer (some ⟨b,0,none⟩),.string ⟨s.toArray⟩] w fun e w'=>e = .returned (.tuple #[.int .i64 s.length,.nilIface])∧∃bs',p0e (ρ.t 72) (ρ.t 5) b (x++s) w' bs'∧(∀k∈bs',k∈bs∨w.heap.size≤k)∧But (· ∈ bs) w w':=by
 obtain ⟨p,v,hp,hbk0,hrow0,hne0,rfl⟩:=h;obtain ⟨i0,hi,hz0,hz1,hz2⟩:=info_parts X.infoByte;have mixed:=L.mixed;have t72:=L.t72;have a72:=L.a72;have z72:=L.z72;have v72:=L.v72;have u72:=run_underlying L.t72;have t70:=L.t70;have a70:=L.a70;have z70:=L.z70;have v70:=L.v70;have u70:=run_underlying L.t70;have t37:=L.t37;have a37:=L.a37;have z37:=L.z37;have v37:=L.v37;have u37:=run_underlying L.t37;have t3:=L.t3;have a3:=L.a3;have z3:=L.z3;have v3:=L.v3;have u3:=run_underlying L.t3;have t9:=L.t9;have a9:=L.a9;have z9:=L.z9;have v9:=L.v9;have u9:=run_underlying L.t9
 have t4:=L.t4;have a4:=L.a4;have z4:=L.z4;have v4:=L.v4;have u4:=run_underlying L.t4;have t5:=X.t5;have a5:=X.a5;have z5:=X.z5;have v5:=X.v5;have u5:=run_underlying X.t5;have e240:=L.e240
 go_enter f166,Body.n166_ntmps ρ
 go_wp2_with (go_at_fn (ρ.f 240);refine (L.copy b p v w hp hbk0).mono ?_)
 rintro e w1 ⟨rfl,hbk,hbut,-⟩;have hlt:b<w1.heap.size:=b0p? hbk;have hrow:RowU (ρ.t 5) v x w1:=hrow0.kept fun g hg=>hbut.same g (hrow0.lt g hg) (fun e=>hne0 (by rw[hg,e]))
 have c0:w1.cell? ⟨b,0,none⟩=some (.pointer (some ⟨b,0,none⟩)):=by rw[Lib.cell_of_heap hbk];rfl
 have c1:w1.cell? ⟨b,1,none⟩=some v:=by rw[Lib.cell_of_heap hbk];rfl
 go_wp2_with (at_builtin;refine n0p (x:=x) (y:=s) rfl _ _ rfl rfl (fun u hu => .inr (by cases hu;exact L.t9)) L.t37 hi hz0 hz1 hz2 rfl rfl hrow (x1g s) hlen ?_)
 intro a n q w2 hown' hgrow hat;have hb2:w2.heap[b]? = some (.cells #[.pointer (some ⟨b,0,none⟩),v] (ρ.t 72) (0,0)):=by
  rw[hgrow.block b hlt (fun e=>hne0 e.symm)];exact hbk
 have d0:w2.cell? ⟨b,0,none⟩=some (.pointer (some ⟨b,0,none⟩)):=by rw[Lib.cell_of_heap hb2];rfl
 have d1:w2.cell? ⟨b,1,none⟩=some v:=by rw[Lib.cell_of_heap hb2];rfl
 have f1:w2.frozen? ⟨b,1,none⟩=false:=Lib.frozen_of_heap hb2 1
 go_wp2
 go_ret2
 exact ⟨rfl,c2b X.neB5 hbk hbut hown' hgrow hat hne0 (fun k hk=>by simp[hk]) (by simp)⟩
theorem But.freeze {O:Nat→Prop} {w w1:World} (h:But O w w1) {g:Nat} (hg:O g) (n:Nat):But O w (w1.freeze ⟨g,0,none⟩ n):=by
 unfold World.freeze;split
 ·exact h
 ·exact ⟨h.os,h.tape,h.output,by simpa using h.size,fun k hk ho=>by
   simp only[Array.getElem?_modify];rw[if_neg (fun q=>ho (by rw[←q];exact hg))]
   exact h.same k hk ho⟩
theorem v1y {T e b g cap:Nat} {x:List UInt8} {p:Value} {cur:Array Value} {m:Nat×Nat} {w:World} (hp:p = .pointer none∨p = .pointer (some ⟨b,0,none⟩)) (hb:w.heap[b]? = some (.cells #[p,.slice (some ⟨g,0,none⟩) x.length cap] T (0,0)))
  (hg:w.heap[g]? = some (.cells cur e m)) (k0:m.1=m.2∨m.2≤x.length) (k1:x.length≤cap) (k2:cap≤maxLen∧0<cap) (k3:cur.size=cap) (k5:cur.toList.take x.length=b0k x) (hne:g≠b) (h0:x.length≠0) :
  p0e T e b x (w.drew.freeze ⟨g,0,none⟩ x.length) (b::(Value.slice (some ⟨g,0,none⟩) x.length cap).ownBlock.toList):=by
 refine ⟨p,_,hp,?_,.inr ⟨g,cap,cur,(if m.1==m.2 then (0,0+x.length) else (min m.1 0,max m.2 (0+x.length))),rfl,?_,?_,k1,k2,k3,k5⟩,by simp[Value.ownBlock,hne],rfl⟩
 ·unfold World.freeze;rw[if_neg h0];simp only[Array.getElem?_modify];rw[if_neg hne];exact hb
 ·unfold World.freeze;rw[if_neg h0];simp only[Array.getElem?_modify,if_true];have:w.drew.heap[g]? = some (.cells cur e m):=hg;rw[this];rfl
 ·right;split
  ·simp
  ·rename_i hq;have:m.1≠m.2:=by simpa using hq
   rcases k0 with k0 | k0
   ·exact absurd k0 this
   ·simp only;omega
set_option maxHeartbeats 2000000 in
set_option maxRecDepth 100000 in
theorem a2c (L:Lays.n169 P ρ) (X:Builder.Extra P ρ) {b:Nat} {x:List UInt8} {bs:List Nat} (w:World) (h:p0e (ρ.t 72) (ρ.t 5) b x w bs) :
  Calls P (ρ.f 169) #[.pointer (some ⟨b,0,none⟩)] w fun e w'=>e = .returned (.string ⟨x.toArray⟩)∧p0e (ρ.t 72) (ρ.t 5) b x w' bs∧But (· ∈ bs) w w':=by
 have hall:=h;obtain ⟨p,v,hp,hbk,hrow,hne,rfl⟩:=h;have mixed:=L.mixed;rcases hrow with ⟨rfl,rfl⟩ | ⟨g,cap,cur,m,rfl,hg,k0,k1,k2,k3,k5⟩
 ·have hUS:=Any.unsafeString_none L X;have c1:w.drew.cell? ⟨b,1,none⟩=some (.slice none 0 0):=by
   have:w.drew.heap[b]? = some (.cells #[p,.slice none 0 0] (ρ.t 72) (0,0)):=hbk;rw[Lib.cell_of_heap this];rfl
  have hSD:(Builtin.unsafeSliceData_ #[(ρ.t 37)] (ρ.t 127) #[.slice none 0 0]).run P w.drew = .ok (.pointer none) w.drew:=rfl;have t72:=L.t72;have a72:=L.a72;have z72:=L.z72;have v72:=L.v72;have u72:=run_underlying L.t72;have t70:=L.t70;have a70:=L.a70;have z70:=L.z70;have v70:=L.v70;have u70:=run_underlying L.t70;have t37:=L.t37;have a37:=L.a37;have z37:=L.z37;have v37:=L.v37;have u37:=run_underlying L.t37;have t127:=L.t127;have a127:=L.a127;have z127:=L.z127;have v127:=L.v127;have u127:=run_underlying L.t127
  have t3:=L.t3;have a3:=L.a3;have z3:=L.z3;have v3:=L.v3;have u3:=run_underlying L.t3;have t9:=L.t9;have a9:=L.a9;have z9:=L.z9;have v9:=L.v9;have u9:=run_underlying L.t9;have t5:=X.t5;have a5:=X.a5;have z5:=X.z5;have v5:=X.v5;have u5:=run_underlying X.t5
  go_enter L.f169,Body.n169_ntmps ρ
  go_wp2
  go_region_o
  all_goals (go_wp2;go_ret;exact ⟨rfl,hall.same (fun _ _=>rfl),(But.refl _ w).drew⟩)
 ·by_cases h0:x=[]
  ·subst h0;refine (Any.Builder_String_room L X w.heap.size b g cap p w (by omega) hbk).mono ?_;rintro e w' ⟨rfl,hB⟩;exact ⟨rfl,hall.same (fun c hc=>hB.block c (hall.lt c hc)),hB.os,hB.tape,hB.output,hB.size,fun k hk _=>hB.block k hk⟩
  have hfz:=v1y hp hbk hg k0 k1 k2 k3 k5 (by simpa [Value.ownBlock] using hne) (fun q=>h0 (List.eq_nil_of_length_eq_zero q));have c1:w.drew.cell? ⟨b,1,none⟩=some (.slice (some ⟨g,0,none⟩) x.length cap):=by
   have:w.drew.heap[b]? = some (.cells #[p,.slice (some ⟨g,0,none⟩) x.length cap] (ρ.t 72) (0,0)):=hbk;rw[Lib.cell_of_heap this];rfl
  have hSD:(Builtin.unsafeSliceData_ #[(ρ.t 37)] (ρ.t 127) #[.slice (some ⟨g,0,none⟩) x.length cap]).run P w.drew = .ok (.pointer (some ⟨g,0,none⟩)) w.drew :=
   Lib.run_unsafeSliceData_row _ _ _ _ _ _ (by omega)
  have hUS:(Builtin.unsafeString_ #[(ρ.t 127),(ρ.t 3)] (ρ.t 9) #[.pointer (some ⟨g,0,none⟩),.int .i64 x.length]).run P w.drew = .ok (.string ⟨x.toArray⟩) (w.drew.freeze ⟨g,0,none⟩ x.length):=by
   refine Lib.run_unsafeString_row w.drew (ρ.t 127) (ρ.t 3) (ρ.t 9) (ρ.t 5) L.t127 X.cellsByte g cur.size (by have hg':w.drew.heap[g]? = some (.cells cur (ρ.t 5) m):=hg;simp[World.shape?,hg']) x h0 (by omega) (by have:=k2.1;unfold maxLen at this;omega) ?_;intro j y hy;have hg':w.drew.heap[g]? = some (.cells cur (ρ.t 5) m):=hg;rw[addr_add,Nat.zero_add,cell_of_row _ g j cur _ _ hg',←Array.getElem?_toList];have h1:(cur.toList.take x.length)[j]? = some (.int .u8 y.toNat):=by rw[k5];simp[b0k,hy]
   rw[List.getElem?_take] at h1;split at h1
   ·exact h1
   ·cases h1
  have t72:=L.t72;have a72:=L.a72;have z72:=L.z72;have v72:=L.v72;have u72:=run_underlying L.t72;have t70:=L.t70;have a70:=L.a70;have z70:=L.z70;have v70:=L.v70;have u70:=run_underlying L.t70;have t37:=L.t37;have a37:=L.a37;have z37:=L.z37;have v37:=L.v37;have u37:=run_underlying L.t37;have t127:=L.t127;have a127:=L.a127;have z127:=L.z127;have v127:=L.v127;have u127:=run_underlying L.t127;have t3:=L.t3;have a3:=L.a3;have z3:=L.z3;have v3:=L.v3;have u3:=run_underlying L.t3;have t9:=L.t9;have a9:=L.a9;have z9:=L.z9;have v9:=L.v9;have u9:=run_underlying L.t9
  have t5:=X.t5;have a5:=X.a5;have z5:=X.z5;have v5:=X.v5;have u5:=run_underlying X.t5
  go_enter L.f169,Body.n169_ntmps ρ
  go_wp2
  go_region_o
  all_goals (go_wp2;go_ret;exact ⟨rfl,hfz,((But.refl _ w).drew).freeze (by simp[Value.ownBlock]) _⟩)
structure GrowL (P:Program) (ρ:Ren):Prop where
 f165:P.funcs[ρ.f 165]? = some (Body.n165 ρ)
 f241:P.funcs[ρ.f 241]? = some (Body.n241 ρ)
 e241:∀args w,(callFunc (ρ.f 241) args).run P w = .ok (.enter (ρ.f 241) args) w
 room:∀(n:Nat) (w:World),n≤281474976710656→∃cs:Array Value,(callFunc (ρ.f 277) #[.int .i64 n]).run P w = .ok (.value (.slice (some ⟨w.heap.size,0,none⟩) n cs.size)) (w.drew.drew.alloc (.cells cs (ρ.t 5)))∧n≤cs.size∧(n≤maxLen→cs.size≤maxLen)
end Go.Flat
end
section
set_option linter.unusedVariables false
namespace Go.Flat
open Go.Shelf Go.RowKit Go.Proofs
@[reducible] def a2d (s:Sig) (g:El (tupU s.ps)→Option (El s.out)):Hand:=⟨tupU s.ps,s.out,g⟩
def g1g:List (Nat×Hand)→Nat→Option Hand
 | [],_=>none
 | (m,H)::r,n=>bif Nat.beq m n then some H else g1g r n
theorem o1w {l:List (Nat×Hand)} {n:Nat} {H:Hand} (h:g1g l n=some H):(n,H)∈l:=by
 induction l with
 | nil=>cases h
 | cons p l ih =>
  obtain ⟨m,G⟩:=p;unfold g1g at h;cases hb:Nat.beq m n with
  | true =>
   rw[hb] at h;simp only[cond_true,Option.some.injEq] at h;rw[Nat.eq_of_beq_eq_true hb,h];simp
  | false =>
   rw[hb] at h;exact List.mem_cons_of_mem _ (ih h)
def x0w (P:Program) (G:World→Fz→Prop) (f:FuncId) (s:Sig) (g:El (tupU s.ps)→Option (El s.out)):Prop :=
 ∀x y,g x=some y→∀W F O vs,G W F→(∀b,F b→b<W.heap.size)→b0t s.ps vs→RdB P (tupU s.ps) x W F O (cat vs)→O.Nodup→(∀b∈O,¬F b) →
  Calls P f vs.toArray W fun e W'=>∃v F',e = .returned v∧Move W F O W' F'∧Ret P W O s vs s.out y W' F' v
theorem Ret.cast {P:Program} {W:World} {O:List Nat} {s:Sig} {args:List Value} {t u:Ty} (e:t=u) {y:El t} {W':World} {F':Fz} {v:Value} (h:Ret P W O s args t y W' F' v):Ret P W O s args u (e ▸ y) W' F' v:=by
 subst e;exact h
theorem z0p {cx:Cx} {f:FuncId} {s:Sig} {g:El (tupU s.ps)→Option (El s.out)} (hs:cx.sig f=some s) (hc:x0w cx.P (GlobOk cx) f s g) :
  ∀s',cx.sig f=some s'→∀(x:El (cx.arg f)) (y:El (cx.out f)),handF cx (a2d s g) f x=some y→∀W F O vs,GlobOk cx W F→(∀b,F b→b<W.heap.size)→b0t s'.ps vs→RdB cx.P (cx.arg f) x W F O (cat vs) →
   O.Nodup→(∀b∈O,¬F b)→Calls cx.P f vs.toArray W fun e W'=>∃v F',e = .returned v∧Move W F O W' F'∧Ret cx.P W O s' vs (cx.out f) y W' F' v:=by
 intro s' hs' x y hy W F O vs hG hF hf hx hO hOF;rw[hs] at hs';injection hs' with hs';subst hs';unfold handF at hy;cases hx':b0s (a:=cx.arg f) (b:=(a2d s g).a) x with
 | none=>rw[hx'] at hy;cases hy
 | some x' =>
  rw[hx'] at hy;simp only[Option.bind_some] at hy;obtain ⟨ex,rfl⟩:=a0s hx';have ex':cx.arg f=tupU s.ps:=ex;cases hg:g (ex' ▸ x) with
  | none=>rw[hg] at hy;cases hy
  | some z =>
   rw[hg] at hy;simp only[Option.bind_some] at hy;obtain ⟨ey,rfl⟩:=a0s hy;refine (hc _ _ hg W F O vs hG hF hf (RdB.cast ex' hx) hO hOF).mono ?_;rintro e W' ⟨v,F',h1,h2,h3⟩;exact ⟨v,F',h1,h2,h3.cast ey⟩
theorem But.move {W W':World} {F:Fz} {O:List Nat} (h:But (· ∈ O) W W') (hF:∀b,F b→b<W.heap.size) (hO:∀b∈O,¬F b):Move W F O W' F :=
 ⟨⟨h.os,h.tape,h.output,h.size,fun b hb=>h.same b (hF b hb) (fun k=>hO b k hb),fun _ hb=>hb⟩,fun b hb hn=>h.same b hb hn,fun _ hb => .inl hb⟩
section
variable {P:Program} {ρ:Ren} {G:World→Fz→Prop}
theorem x1x {T e:Nat} {ps:List Ty} {x:El (tupU (.sb T e::ps))} {W:World} {F:Fz} {O:List Nat} {vs:List Value} (hf:b0t (.sb T e::ps) vs) (hx:RdB P (tupU (.sb T e::ps)) x W F O (cat vs)) :
  ∃b bs O2 us,vs = .pointer (some ⟨b,0,none⟩)::us∧O=bs++O2∧p0e T e b x.1 W bs∧b0t ps us∧RdB P (tupU ps) x.2 W F O2 (cat us):=by
 match vs,hf with
 | v::us,hf =>
  obtain ⟨O1,O2,rfl,⟨u,h1,b,h2,h3⟩,h4⟩:=hx;have hc:v.cells = #[v]:=oneCell_cells (hf.1.2.1 rfl);rw[f0g hf.1.2.2 0 (by simp[width]),one,hc] at h1;have hv:v=u:=by simpa using h1
  rw[g0k hf.1.2.2] at h4;exact ⟨b,O1,O2,us,by rw[hv,h2],rfl,h3,hf.2,h4⟩
theorem r1k {t:Ty} {ps:List Ty} {x:El (tupU (t::ps))} {W:World} {F:Fz} {O:List Nat} {vs:List Value} (hw:width t=1) (ha:agg t=false) (hf:b0t (t::ps) vs) (hx:RdB P (tupU (t::ps)) x W F O (cat vs)) :
  ∃v us O1 O2,vs=v::us∧O=O1++O2∧RdB P t x.1 W F O1 (fun j=>if j=0 then some v else none)∧b0t ps us∧RdB P (tupU ps) x.2 W F O2 (cat us):=by
 match vs,hf with
 | v::us,hf =>
  obtain ⟨O1,O2,rfl,h1,h4⟩:=hx;have hc:v.cells = #[v]:=oneCell_cells (hf.1.2.1 ha);rw[g0k hf.1.2.2] at h4;refine ⟨v,us,O1,O2,rfl,rfl,RdB.congr t (fun j hj => ?_) h1,hf.2,h4⟩;rw[f0g hf.1.2.2 j hj,one,hc];have:j=0:=by omega
  subst this;rfl
noncomputable def v0h (x:List UInt8) (c:Int):Option (Bool×List UInt8):=tif (decide (0≤c)&&(decide (c≤255)&&decide (x.length+1≤140737488355328))) (some (false,x++[UInt8.ofNat c.toNat])) none
noncomputable def o0v (x s:List UInt8):Option (Int×(Bool×List UInt8)):=tif (decide (x.length+s.length≤140737488355328)) (some ((s.length:Int),(false,x++s))) none
theorem d1o (b:Bool) {v:Value} (h1:v.oneCell'=true):formed .err v:=⟨(fun e=>by cases e),(fun _=>h1),by rw[oneCell_cells h1];rfl⟩
theorem k1z (L:BldL P ρ) (X:Builder.Extra P ρ) (f167:P.funcs[ρ.f 167]? = some (Body.n167 ρ)):x0w P G (ρ.f 167) ⟨[.sb (ρ.t 72) (ρ.t 5),.int .u8],[.err],[0]⟩ (fun x=>v0h x.1 x.2.1):=by
 intro x y hy W F O vs _ hF hf hx hO hOF;obtain ⟨b,bs,O2,us,rfl,rfl,hb,hf2,hx2⟩:=x1x hf hx;obtain ⟨v,us2,O3,O4,rfl,rfl,⟨rfl,hv⟩,hf3,hx3⟩:=r1k rfl rfl hf2 hx2
 match us2,hf3 with
 | [],_ =>
 have hO4:O4=[]:=hx3;subst hO4;simp only[List.append_nil] at hO hOF ⊢;have hv:v = .int .u8 x.2.1:=by simpa [Rd,RdP] using hv
 subst hv;unfold v0h at hy;dsimp only at hy;rw[u0j] at hy;split at hy
 case isFalse=>cases hy
 rename_i hcond;simp only[Bool.and_eq_true,decide_eq_true_eq] at hcond;obtain ⟨h0,h255,hlen⟩:=hcond;injection hy with hy;subst hy;have hc:((UInt8.ofNat x.2.1.toNat).toNat:Int)=x.2.1:=by
  rw[UInt8.toNat_ofNat'];omega
 have:=l1a L X f167 (UInt8.ofNat x.2.1.toNat) W hb hlen;rw[hc] at this;refine this.mono ?_;rintro e W' ⟨rfl,bs',h1,h2,h3⟩;refine ⟨_,F,rfl,h3.move hF hOF,[.nilIface],bs',⟨d1o false rfl,trivial⟩,rfl,⟨[],bs',rfl,⟨rfl,.nilIface,rfl,rfl,fun _=>rfl,fun e=>by cases e⟩,_,rfl,b,rfl,h1⟩,h1.nodup,fun k hk hf => ?_,h2⟩;rcases h2 k hk with q | q
 ·exact hOF k q hf
 ·have:=hF k hf;omega
theorem b1j (L:BldL P ρ) (X:Builder.Extra P ρ) (f166:P.funcs[ρ.f 166]? = some (Body.n166 ρ)):x0w P G (ρ.f 166) ⟨[.sb (ρ.t 72) (ρ.t 5),.str],[.int .i64,.err],[0]⟩ (fun x=>o0v x.1 x.2.1):=by
 intro x y hy W F O vs _ hF hf hx hO hOF;obtain ⟨b,bs,O2,us,rfl,rfl,hb,hf2,hx2⟩:=x1x hf hx;obtain ⟨v,us2,O3,O4,rfl,rfl,⟨rfl,hv⟩,hf3,hx3⟩:=r1k rfl rfl hf2 hx2
 match us2,hf3 with
 | [],_ =>
 have hO4:O4=[]:=hx3;subst hO4;simp only[List.append_nil] at hO hOF ⊢;have hv:v = .string ⟨x.2.1.toArray⟩:=by simpa [Rd,RdP] using hv
 subst hv;unfold o0v at hy;dsimp only at hy;rw[u0j] at hy;split at hy
 case isFalse=>cases hy
 rename_i hcond;simp only[decide_eq_true_eq] at hcond;injection hy with hy;subst hy;refine (b1k L X f166 x.2.1 W hb hcond).mono ?_;rintro e W' ⟨rfl,bs',h1,h2,h3⟩;refine ⟨_,F,rfl,h3.move hF hOF,[.int .i64 x.2.1.length,.nilIface],bs',⟨⟨(fun e=>by cases e),(fun _=>rfl),rfl⟩,d1o false rfl,trivial⟩,rfl,
  ⟨[],bs',rfl,⟨rfl,rfl⟩,[],bs',rfl,⟨rfl,.nilIface,rfl,rfl,fun _=>rfl,fun e=>by cases e⟩,_,rfl,b,rfl,h1⟩,h1.nodup,fun k hk hf => ?_,h2⟩
 rcases h2 k hk with q | q
 ·exact hOF k q hf
 ·have:=hF k hf;omega
theorem a2b (L:Lays.n169 P ρ) (X:Builder.Extra P ρ):x0w P G (ρ.f 169) ⟨[.sb (ρ.t 72) (ρ.t 5)],[.str],[0]⟩ (fun x=>some (x.1,x.1)):=by
 intro x y hy W F O vs _ hF hf hx hO hOF;obtain ⟨b,bs,O2,us,rfl,rfl,hb,hf2,hx2⟩:=x1x hf hx
 match us,hf2 with
 | [],_ =>
 have hO4:O2=[]:=hx2;subst hO4;simp only[List.append_nil] at hO hOF ⊢;injection hy with hy;subst hy;refine (a2c L X W hb).mono ?_;rintro e W' ⟨rfl,h2,h3⟩;exact ⟨_,F,rfl,h3.move hF hOF,[_],bs,⟨⟨(fun e=>by cases e),(fun _=>rfl),rfl⟩,trivial⟩,rfl,⟨[],bs,rfl,⟨rfl,rfl⟩,_,rfl,b,rfl,h2⟩,h2.nodup,hOF,fun k hk => .inl hk⟩
end
end Go.Flat
end
section
set_option linter.unusedVariables false
namespace Go.Flat
open Go.Shelf Go.RowKit Go.Proofs
section
variable {P:Program} {G:World→Fz→Prop}
end
end Go.Flat
end
