/-
 The flat reading and its soundness, merged part 2 of 4 (T4, T5, T6, T7, T8, T9, TA, TB, TC, TD, TE, TF, TG, TH, TI, TJ).
-/
import Derived.Test.YtmcgmijdnfcfgaaFlatM1
import Derived.Laws.Tables
import Derived.Laws.MakeOwn
import Derived.Laws.StructEq
import Derived.ChangeKeysEq
set_option linter.unusedVariables false
set_option linter.unusedSimpArgs false
section
namespace Go.Flat
open Go.RowKit (Below)
section
variable {cx:Cx} {call:Oracle cx} {fx:Hints} {W W':World} {F F':Fz} {E E':EnvM} {h:Heap} {N:Nat→Prop} {ρ:Operand→V} {a:Act} {R:Type}
theorem j0h (w:World) (o:Obj):(w.alloc o).heap[w.heap.size]? = some o:=by
 show (w.heap.push o)[w.heap.size]? = some o;simp
theorem f0p (w:World) (o:Obj) (i:Nat) (h:i<w.heap.size):(w.alloc o).heap[i]? = w.heap[i]? := by
 show (w.heap.push o)[i]? = w.heap[i]?;rw[Array.getElem?_push,if_neg (Nat.ne_of_lt h)]
theorem d0l:∀t:Ty,(zeroCells t).length=width t:=by
 intro t;induction t with
 | pair a b iha ihb=>simp[zeroCells,width,iha,ihb]
 | wrap e ih=>simp[zeroCells,width,ih]
 | _=>rfl
def KOk (N:Nat→Prop) (h:Heap) (k:V→Ups→Option R):Prop:=∀x u r,k x u=some r→∀n∈a0e u,N n∧n<h.length
theorem OpOk.of {P:Program} {o:Oper} {x:V} {v:Value} {u:Ups} (hrun:(execOp a.eval o).run P W = .ok (.value v) W') (hp:OpPost P W F E N h W' F' E' u) (hv:RdV P W' F' E' x v) :
  OpOk P o a W F E N h x u:=by
 intro rd next Q hsem hn;refine ⟨fun _ _=>trivial,?_⟩;rw[show (Rnd rd).round=rd from rfl,hsem,hrun];exact hn v W' F' E' hp hv
theorem OpOk.skip {P:Program} {o:Oper} {u:Ups} (hrun:(execOp a.eval o).run P W = .ok .skip W') (hp:OpPost P W F E N h W' F' E' u) :
  OpOk P o a W F E N h .undef u:=by
 intro rd next Q hsem hn;refine ⟨fun _ _=>trivial,?_⟩;rw[show (Rnd rd).round=rd from rfl,hsem,hrun];exact hn Go.undef W' F' E' hp rfl
theorem a0j:a0g F h E []=F:=by
 funext b;apply propext;constructor
 ·rintro (h1 | ⟨n,hn,_⟩)
  ·exact h1
  ·cases hn
 ·exact .inl
theorem OpPost.new {P:Program} {nm:Nat} {B:Blk} {T:TypeId} {cs:Array Value} {W0:World} (hr:HR P W F E N h) (hF:∀b,F b→b<W.heap.size) (hN:N nm) (hlt:nm<h.length)
  (hW:W.grownBy W0 none) (hW0:W0.heap.size=W.heap.size) {L:Loc} (hL:∀x,L.has x→x=W.heap.size)
  {ns:List Nat} (hB:f0e P (W0.alloc (.cells cs T)) (a0g F h E ns) (E.next nm (some L)) L B) :
  OpPost P W F E N h (W0.alloc (.cells cs T)) (a0g F h E ns) (E.next nm (some L)) (a0i h ns++[(nm,a0h h nm+1,some B)]):=by
 rw[a0y hr hN hlt];refine OpPost.turn (row:=none) hr hF hN hlt (EnvM.next_le _ _ _) (EnvM.next_top _ _ _) (fun m hm=>EnvM.next_other _ _ _ m hm) ?_ (fun b hb=>by cases hb) (fun _ hb=>hb) (fun _ hb => .inl hb)
  ⟨L,EnvM.next_m _ _ _,hB,fun x hx => .inr ?_⟩
 ·exact ⟨hW.os,hW.tape,hW.output,by simp[hW0],fun k hk _=>by rw[←hW.block k hk (by simp)];exact f0p _ _ k (by omega)⟩
 ·have hx:=hL x hx;simp[hW0];omega
theorem OpPost.newNil {P:Program} {nm:Nat} {B:Blk} {T:TypeId} {cs:Array Value} {W0:World} (hr:HR P W F E N h) (hF:∀b,F b→b<W.heap.size) (hN:N nm) (hlt:nm<h.length)
  (hW:W.grownBy W0 none) (hW0:W0.heap.size=W.heap.size)
  {ns:List Nat} (hB:f0e P (W0.alloc (.cells cs T)) (a0g F h E ns) (E.next nm (some .nil)) .nil B) :
  OpPost P W F E N h (W0.alloc (.cells cs T)) (a0g F h E ns) (E.next nm (some .nil)) (a0i h ns++[(nm,a0h h nm+1,some B)]):=by
 rw[a0y hr hN hlt];refine OpPost.turn (row:=none) hr hF hN hlt (EnvM.next_le _ _ _) (EnvM.next_top _ _ _) (fun m hm=>EnvM.next_other _ _ _ m hm) ?_ (fun b hb=>by cases hb) (fun _ hb=>hb) (fun _ hb => .inl hb)
  ⟨.nil,EnvM.next_m _ _ _,hB,fun x hx=>by cases hx⟩
 ·exact ⟨hW.os,hW.tape,hW.output,by simp[hW0],fun k hk _=>by rw[←hW.block k hk (by simp)];exact f0p _ _ k (by omega)⟩
theorem o0h:∀l:List Ty,zeroCells (tup l)=(l.map zeroCells).flatten:=by
 intro l
 match l with
 | []=>rfl
 | [a]=>simp[tup]
 | a::b::r =>
  have:=o0h (b::r);simp only[tup,zeroCells,this,List.map_cons,List.flatten_cons]
theorem f1x {α:Type} {zs:List α}:∀(n i:Nat),i<n→(((List.replicate n zs).flatten).drop (i*zs.length)).take zs.length=zs:=by
 intro n;induction n with
 | zero=>intro i h;omega
 | succ n ih =>
  intro i h;cases i with
  | zero=>simp[List.replicate_succ]
  | succ i =>
   rw[List.replicate_succ,List.flatten_cons,Nat.succ_mul,Nat.add_comm,←List.drop_drop,List.drop_left];exact ih i (by omega)
theorem e1s {t:TypeId} {c e:Ty} {z:El e} {n:Nat} (h:rowTy cx t c=some ⟨e,z,n⟩):∃et,cx.ty et=some e∧i0b e=some z∧c = .wrap (tup (List.replicate n e))∧0<width e∧0<n∧n≤65536:=by
 unfold rowTy at h;split at h
 case h_2=>cases h
 rename_i m et hs;split at h
 case h_2=>cases h
 rename_i e' he;split at h
 case h_2=>cases h
 rename_i z' hz;split at h
 case isFalse=>cases h
 rename_i hc;cases hb:e0f cx et e'&&(Nat.blt 0 m&&Nat.ble m 65536) with
 | false=>rw[hb] at h;cases h
 | true =>
  rw[hb] at h;simp only[cond_true,Option.some.injEq] at h;cases h;simp only[Bool.and_eq_true] at hb;obtain ⟨h1,h2,h3⟩:=hb;refine ⟨et,he,hz,hc,?_,by simpa [Nat.blt_eq] using h2,by simpa [Nat.ble_eq] using h3⟩;unfold e0f at h1;simp only[Bool.and_eq_true,Bool.not_eq_true'] at h1;rcases Nat.eq_zero_or_pos (width e) with q | q
  ·rw[q] at h1;exact absurd h1.2 (by decide)
  ·exact q
theorem op_alloc {o:Oper} {k:V→Ups→Option R} {r:R} {t:TypeId} {c:Ty} (cc:Ctx cx call W F E N h ρ a) (hK:KOk N h k) (ho:o.op = .alloc t) (ht:cx.ty t=some c)
  (hk:k (.v false [.loc (nmOf fx o) (a0h h (nmOf fx o)+1) 0]) [(nmOf fx o,a0h h (nmOf fx o)+1,some (.box c (zeroCells c) false))]=some r):a0r cx W F E N h a o k r:=by
 have hty:=k0k cc.tab ht;obtain ⟨ti,h1,h2,z,h3,h4,h5⟩:=hty.ti;obtain ⟨hN,hlt⟩:=hK _ _ _ hk (nmOf fx o) (by simp[a0e]);have hpost:=OpPost.new (T:=t) (cs:=z.cells) (W0:=W) (ns:=[]) (L := .box W.heap.size) (B := .box c (zeroCells c) false) cc.hr cc.hF hN hlt ⟨rfl,rfl,rfl,Nat.le_refl _,fun _ _ _=>rfl⟩ rfl (fun _ h=>h)
  (by
   rw[a0j];refine ⟨_,_,_,rfl,j0h W _,e0r h4,?_,fun _ hf => ?_,fun e=>by cases e⟩
   ·exact d0l c
   ·have:=cc.hF _ hf;omega)
 refine ⟨_,_,hk,OpOk.of (v := .pointer (some ⟨W.heap.size,0,none⟩)) ?_ hpost (RdV.mk1 ⟨?_,⟨.box W.heap.size,?_⟩,fun L hL => ?_⟩ rfl)⟩
 ·simp[execOp,ho,Instr.alloc,zeroValue,typeInfo,h1,h3,newVar,newRow]
 ·rw[a0y cc.hr hN hlt,EnvM.next_top];exact Nat.le_refl _
 ·rw[a0y cc.hr hN hlt,EnvM.next_m]
 ·rw[a0y cc.hr hN hlt,EnvM.next_m] at hL;injection hL with hL;subst hL;rfl
theorem bldZero {P:Program} {t e:TypeId} (h:shpB P t (.bld e)=true):∃ti z,P.info? t=some ti∧ti.zero=some z∧z.cells = #[.pointer none,.slice none 0 0]:=by
 unfold shpB at h;split at h<;>(try (rename_i h1;cases h1))<;>(try (rename_i h1 h2;cases h1))<;>(try (cases h));split at h
 case h_2=>cases h
 rename_i ti hti;split at h
 case h_2=>cases h
 rename_i z hz;refine ⟨ti,z,hti,hz,?_⟩;generalize hc:z.cells.toList=l at h;rcases l with _ | ⟨u,_ | ⟨v,_ | ⟨w,r⟩⟩⟩
 case cons.cons.nil =>
  simp only[p0d,t0t,Bool.and_eq_true,and_true] at h;rw[x0v h.1,x0v h.2] at hc;apply Array.ext';exact hc
 all_goals simp[p0d] at h
theorem b1l {o:Oper} {k:V→Ups→Option R} {r:R} {t e:TypeId} (cc:Ctx cx call W F E N h ρ a) (hK:KOk N h k) (ho:o.op = .alloc t) (hs:cx.shp t = .bld e)
  (hk:k (.v false [.sl (nmOf fx o) (a0h h (nmOf fx o)+1)]) [(nmOf fx o,a0h h (nmOf fx o)+1,some (.sealed (nmOf fx o) (a0h h (nmOf fx o)+1) (a0h h (nmOf fx o)+1) (.sb t e) [] none false))]=some r):a0r cx W F E N h a o k r:=by
 obtain ⟨hN,hlt⟩:=hK _ _ _ hk (nmOf fx o) (by simp[a0e]);have hshp:shpB cx.P t (.bld e)=true:=by
  unfold Cx.shp at hs;cases hi:cx.info t with
  | none=>rw[hi] at hs;cases hs
  | some i=>rw[hi] at hs;have:=(cc.tab t i hi).shp;rw[←hs];exact this
 obtain ⟨ti,z,h1,h3,hz⟩:=bldZero hshp;have hvt:=a0y cc.hr hN hlt;have hsl:n0s cx.P (.sb t e) ([]:List UInt8) (W.alloc (.cells z.cells t)) [W.heap.size] (.pointer (some ⟨W.heap.size,0,none⟩)) :=
  ⟨W.heap.size,rfl,_,_,.inl rfl,by rw[hz];exact j0h W _,.inl ⟨rfl,rfl⟩,by simp[Value.ownBlock],rfl⟩
 have hpost:=OpPost.new (T:=t) (cs:=z.cells) (W0:=W) (ns:=[]) (L := .tree (.pointer (some ⟨W.heap.size,0,none⟩)) [W.heap.size]) (B := .sealed (nmOf fx o) (a0h h (nmOf fx o)+1) (a0h h (nmOf fx o)+1) (.sb t e) [] none false) cc.hr cc.hF hN hlt ⟨rfl,rfl,rfl,Nat.le_refl _,fun _ _ _=>rfl⟩ rfl (fun x hx=>by simpa [Loc.has] using hx)
  (by
   rw[a0j];refine ⟨_,_,rfl,by rw[hvt];exact EnvM.next_m _ _ _,by rw[hvt,EnvM.next_top];exact Nat.le_refl _,fun j hj hj' => ?_,hsl.lt,fun _=>⟨⟨rfl,hsl⟩,by simp,fun b hb hf => ?_⟩⟩
   ·have:j=E.top (nmOf fx o)+1:=by omega
    subst this;exact ⟨_,EnvM.next_m _ _ _⟩
   ·simp at hb;subst hb
    have:=cc.hF _ hf;omega)
 refine ⟨_,_,hk,OpOk.of (v := .pointer (some ⟨W.heap.size,0,none⟩)) ?_ hpost (RdV.mk1 ⟨?_,⟨.tree (.pointer (some ⟨W.heap.size,0,none⟩)) [W.heap.size],?_⟩,fun L hL => ?_⟩ rfl)⟩
 ·simp[execOp,ho,Instr.alloc,zeroValue,typeInfo,h1,h3,newVar,newRow]
 ·rw[hvt,EnvM.next_top];exact Nat.le_refl _
 ·rw[hvt,EnvM.next_m]
 ·rw[hvt,EnvM.next_m] at hL;injection hL with hL;subst hL;rfl
theorem op_box {o:Oper} {k:V→Ups→Option R} {r:R} {t:TypeId} {c:Ty} {x:Operand} {ag:Bool} {cs:List Cell} (cc:Ctx cx call W F E N h ρ a) (hK:KOk N h k) (ho:o.op = .box t x)
  (hx:ρ x = .v ag cs) (hl:cs.length=width c)
  (hk:k (.v false [.loc (nmOf fx o) (a0h h (nmOf fx o)+1) 0]) [(nmOf fx o,a0h h (nmOf fx o)+1,some (.box c cs false))]=some r):a0r cx W F E N h a o k r:=by
 obtain ⟨hN,hlt⟩:=hK _ _ _ hk (nmOf fx o) (by simp[a0e]);have hv:=cc.ρ x;rw[hx] at hv;have hlater:Later W F (W.alloc (.cells (a.eval x).cells t)) F:=⟨rfl,rfl,rfl,by simp,fun b hb=>f0p W _ b (cc.hF b hb),fun _ hb=>hb⟩;have hpost:=OpPost.new (T:=t) (cs:=(a.eval x).cells) (W0:=W) (ns:=[]) (L := .box W.heap.size) (B := .box c cs false) cc.hr cc.hF hN hlt ⟨rfl,rfl,rfl,Nat.le_refl _,fun _ _ _=>rfl⟩ rfl (fun _ h=>h)
  (by
   rw[a0j];refine ⟨_,_,_,rfl,j0h W _,a0d.later hv.1 hlater (EnvM.next_le _ _ _),hl,fun _ hf => ?_,fun e=>by cases e⟩
   have:=cc.hF _ hf;omega)
 refine ⟨_,_,hk,OpOk.of (v := .pointer (some ⟨W.heap.size,0,none⟩)) ?_ hpost (RdV.mk1 ⟨?_,⟨.box W.heap.size,?_⟩,fun L hL => ?_⟩ rfl)⟩
 ·simp[execOp,ho,Instr.box,newVar,newRow]
 ·rw[a0y cc.hr hN hlt,EnvM.next_top];exact Nat.le_refl _
 ·rw[a0y cc.hr hN hlt,EnvM.next_m]
 ·rw[a0y cc.hr hN hlt,EnvM.next_m] at hL;injection hL with hL;subst hL;rfl
end
end Go.Flat
end
section
namespace Go.Flat
open Go.RowKit (Below)
section
variable {cx:Cx} {call:Oracle cx} {fx:Hints} {W W':World} {F F':Fz} {E E':EnvM} {h:Heap} {N:Nat→Prop} {ρ:Operand→V} {a:Act} {R:Type}
theorem d1q (off:Nat):∀(us:List Value) (i:Nat) (cs:Array Value),off+i+us.length≤cs.size →
  (us.zipIdx i).foldl (fun (cs:Array Value) x=>cs.setIfInBounds (off+x.2) x.1) cs=(cs.toList.take (off+i)++us++cs.toList.drop (off+i+us.length)).toArray:=by
 intro us;induction us with
 | nil=>intro i cs _;simp
 | cons u us ih =>
  intro i cs h;simp only[List.length_cons] at h;rw[List.zipIdx_cons,List.foldl_cons,ih (i+1) _ (by simp;omega)];apply Array.ext';simp only[Array.toList_setIfInBounds];have hl:off+i<cs.toList.length:=by simp;omega
  have e1:(cs.toList.set (off+i) u).take (off+(i+1))=cs.toList.take (off+i)++[u]:=by
   rw[List.set_eq_take_append_cons_drop,if_pos hl,List.take_append];have:(cs.toList.take (off+i)).length=off+i:=by rw[List.length_take];omega
   rw[this,List.take_take,show off+(i+1)-(off+i)=1 by omega];simp
  have e2:(cs.toList.set (off+i) u).drop (off+(i+1)+us.length)=cs.toList.drop (off+i+(u::us).length):=by
   rw[List.drop_set_of_lt (by omega)];congr 1;simp;omega
  rw[e1,e2];simp
theorem j1w {P:Program} (place:Nat→Option (Nat×Nat)):∀(ps:List (Nat×Operand)) (cs:List Cell) (vs:Array Value) (c:List Cell),(∀x,RdV P W F E (ρ x) (a.eval x)) →
  d0i place cs (ps.map fun x=>(x.1,ρ x.2))=some c→a0d P W F E cs vs.toList →
  ∃us,Instr.fill place vs (ps.map fun x=>(x.1,a.eval x.2))=some us∧a0d P W F E c us.toList:=by
 intro ps;induction ps with
 | nil =>
  intro cs vs c _ hb hv;simp[d0i] at hb;subst hb;exact ⟨vs,rfl,hv⟩
 | cons x ps ih =>
  intro cs vs c hρ hb hv;obtain ⟨i,x⟩:=x;simp only[List.map_cons] at hb ⊢;have hx:=hρ x;cases hq:ρ x with
  | tup l=>rw[hq] at hb;simp[d0i] at hb
  | undef=>rw[hq] at hb;simp[d0i] at hb
  | lost=>rw[hq] at hb;simp[d0i] at hb
  | v ag new =>
   rw[hq] at hb hx;unfold d0i at hb;cases hp:place i with
   | none=>simp only[hp] at hb;cases hb
   | some q =>
    obtain ⟨off,w⟩:=q;simp only[hp] at hb;split at hb
    case isFalse=>cases hb
    rename_i hw;unfold splice at hb;split at hb
    case isFalse=>cases hb
    rename_i hle;simp only[Option.bind_some] at hb;have hl1:new.length=(a.eval x).cells.size:=by simpa using hx.1.1
    have hl2:cs.length=vs.size:=by simpa using hv.1
    obtain ⟨us,h1,h2⟩:=ih _ ((vs.toList.take off++(a.eval x).cells.toList++vs.toList.drop (off+(a.eval x).cells.toList.length)).toArray) c hρ hb (by
     have:=((hv.take off).append hx.1).append (hv.drop (off+new.length));rw[hl1] at this
     simpa [hl1] using this)
    refine ⟨us,?_,h2⟩;unfold Instr.fill;simp only[hp];rw[if_neg (by simp;omega)];have hf:=d1q off (a.eval x).cells.toList 0 vs (by simp;omega);simp only[Nat.add_zero] at hf;rw[←hf] at h1;rw[←Array.foldl_toList,Array.toList_zipIdx];exact h1
theorem i1i:∀ {gs:List Field} {fs:List (Nat×Nat)},e0d cx→fieldsB gs fs=true→(fs.all fun f=>(cx.info f.2).isSome)=true →
  gs.mapM (fun f=>(cx.P.info? f.type).map fun i=>(f.offset,i.size))=some (fs.map fun f=>(f.1,cx.cells f.2)):=by
 intro gs;induction gs with
 | nil=>intro fs _ h _;cases fs with
  | nil=>rfl
  | cons=>cases h
 | cons g gs ih =>
  intro fs ht h hall;cases fs with
  | nil=>cases h
  | cons f fs =>
   simp only[fieldsB,Bool.and_eq_true] at h;simp only[List.all_cons,Bool.and_eq_true] at hall;obtain ⟨i,hi⟩:=Option.isSome_iff_exists.1 hall.1;obtain ⟨ti,k1,k2,_⟩:=(ht f.2 i hi).info;have e1:=Nat.eq_of_beq_eq_true h.1;have e2:=Nat.eq_of_beq_eq_true h.2.1;rw[List.mapM_cons,ih ht h.2.2 hall.2,e2,k1];simp[e1,Cx.cells,hi,k2]
theorem u0h {o:Oper} {k:V→Ups→Option R} {r:R} {t:TypeId} {ps:Array (Nat×Operand)} {c:Ty} {fs:List (Nat×Nat)} {cs:List Cell} (cc:Ctx cx call W F E N h ρ a) (ho:o.op = .build t ps)
  (ht:cx.ty t=some c) (hs:cx.shp t = .struct fs)
  (hb:d0i (fun i=>(fs[i]?).map fun f=>(f.1,cx.cells f.2)) (zeroCells c) (ps.toList.map fun x=>(x.1,ρ x.2))=some cs) (hall:(fs.all fun f=>(cx.info f.2).isSome)=true)
  (hk:k (.v true cs) []=some r):a0r cx W F E N h a o k r:=by
 have hty:=k0k cc.tab ht;obtain ⟨ti,h1,h2,z,h3,h4,h5⟩:=hty.ti;obtain ⟨gs,u1,u2⟩:=v0e cc.tab hs;obtain ⟨us,k1,k2⟩:=j1w _ ps.toList (zeroCells c) z.cells cs cc.ρ hb (e0r h4);refine a0r.value cc hk (v := .agg us) ?_ ⟨k2,fun _=>⟨us,rfl⟩,fun e=>by cases e⟩;have:=run_build (P:=cx.P) W t (ps.map fun x=>(x.1,a.eval x.2)) us (by
  unfold Program.built;rw[h1,u1];simp only[h3,i1i cc.tab u2 hall]
  simpa [List.getElem?_map] using k1)
 simp[execOp,ho,this]
theorem b1j {o:Oper} {k:V→Ups→Option R} {r:R} {t:TypeId} {ps:Array (Nat×Operand)} {c:Ty} {n e:Nat} {cs:List Cell} (cc:Ctx cx call W F E N h ρ a) (ho:o.op = .build t ps)
  (ht:cx.ty t=some c) (hs:cx.shp t = .arr n e)
  (hb:d0i (fun i=>some (i*cx.cells e,cx.cells e)) (zeroCells c) (ps.toList.map fun x=>(x.1,ρ x.2))=some cs) (hall:(cx.info e).isSome=true)
  (hk:k (.v true cs) []=some r):a0r cx W F E N h a o k r:=by
 have hty:=k0k cc.tab ht;obtain ⟨ti,h1,h2,z,h3,h4,h5⟩:=hty.ti;have u1:=p0p cc.tab hs;obtain ⟨us,k1,k2⟩:=j1w _ ps.toList (zeroCells c) z.cells cs cc.ρ hb (e0r h4);refine a0r.value cc hk (v := .agg us) ?_ ⟨k2,fun _=>⟨us,rfl⟩,fun e=>by cases e⟩;obtain ⟨i,hi⟩:=Option.isSome_iff_exists.1 hall;obtain ⟨te,m1,m2,_⟩:=(cc.tab e i hi).info;have:=run_build (P:=cx.P) W t (ps.map fun x=>(x.1,a.eval x.2)) us (by
  unfold Program.built;rw[h1,u1];simp only[h3,m1];have e1:cx.cells e=te.size:=by simp[Cx.cells,hi,m2]
  rw[e1] at k1
  simpa using k1)
 simp[execOp,ho,this]
end
end Go.Flat
end
section
namespace Go.Flat
open Go.RowKit (Below)
def b0j (cs:Array Value) (p:Nat) (us:List Value):Array Value:=(cs.toList.take p++us++cs.toList.drop (p+us.length)).toArray
theorem get_put {cs:Array Value} {p:Nat} {us:List Value} (hle:p+us.length≤cs.size) (q:Nat) :
  (b0j cs p us)[q]? = if q<p then cs[q]? else if q<p+us.length then us[q-p]? else cs[q]? := by
 have h1:(cs.toList.take p).length=p:=by rw[List.length_take,Array.length_toList];omega
 unfold b0j;simp only[List.getElem?_toArray,List.append_assoc];rw[List.getElem?_append];split
 ·rename_i hq;rw[h1] at hq;rw[if_pos hq,List.getElem?_take,if_pos hq,Array.getElem?_toList]
 ·rename_i hq;rw[h1] at hq;rw[if_neg hq,h1,List.getElem?_append];split
  ·rename_i hq2;rw[if_pos (by omega)]
  ·rename_i hq2;rw[if_neg (by omega),List.getElem?_drop,Array.getElem?_toList];congr 1;omega
theorem size_put {cs:Array Value} {p:Nat} {us:List Value} (hle:p+us.length≤cs.size):(b0j cs p us).size=cs.size:=by
 unfold b0j;simp;omega
theorem p0y {cs:Array Value} {p:Nat} {us:List Value} (h1:∀v∈cs.toList,v.oneCell'=true) (h2:∀v∈us,v.oneCell'=true):∀v∈(b0j cs p us).toList,v.oneCell'=true:=by
 intro v hv;simp only[b0j,List.mem_append] at hv;rcases hv with (hv | hv) | hv
 ·exact h1 v (List.mem_of_mem_take hv)
 ·exact h2 v hv
 ·exact h1 v (List.mem_of_mem_drop hv)
section
variable {cx:Cx} {call:Oracle cx} {fx:Hints} {W W':World} {F F':Fz} {E E':EnvM} {h:Heap} {N:Nat→Prop} {ρ:Operand→V} {a:Act} {R:Type}
theorem b0r {l:List Nat} {n:Nat}:hasN l n=true↔n∈l:=by
 induction l with
 | nil=>simp[hasN]
 | cons m r ih =>
  simp only[hasN,Bool.or_eq_true,ih,List.mem_cons,Nat.beq_eq];exact or_congr_left eq_comm
theorem Rd.noshare {P:Program}:∀(t:Ty) {x:El t} {W W':World} {F F':Fz} {g:Get},shares t=false→Rd P t x W F g→Rd P t x W' F' g:=by
 intro t;induction t with
 | unit=>exact fun _ h=>h
 | pair a b iha ihb=>intro x W W' F F' g hs h;simp only[shares,Bool.or_eq_false_iff] at hs;exact ⟨iha hs.1 h.1,ihb hs.2 h.2⟩
 | wrap e ih=>intro x W W' F F' g hs h;exact ih hs h
 | bool=>exact fun _ h=>h
 | int k=>exact fun _ h=>h
 | str=>exact fun _ h=>h
 | slice e _=>intro x W W' F F' g hs;cases hs
 | ptr e _=>intro x W W' F F' g hs;cases hs
 | fn a r _ _=>intro x W W' F F' g hs;cases hs
 | own e _=>exact fun _ h=>h.elim
 | ref e _=>exact fun _ h=>h.elim
 | opt e _=>exact fun _ h=>h.elim
 | row e _=>exact fun _ h=>h.elim
 | seg e _=>exact fun _ h=>h.elim
 | err=>exact fun _ h=>h
 | sb T e=>exact fun _ h=>h.elim
 | mp k e _ _=>exact fun _ h=>h.elim
 | seq e _=>exact fun _ h=>h.elim
 | ls e _=>exact fun _ h=>h.elim
 | tk k=>exact fun _ h=>h.elim
 | tref k e _=>exact fun _ h=>h.elim
theorem Rd.lent {P:Program} {t:Ty} {x:El t} {g:Get} {ns:List Nat} (hx:Rd P t x W (a0g F h E ns) g):Rd P t x W (a0g F h E (if shares t=true then ns else [])) g:=by
 cases hs:shares t with
 | true=>exact hx
 | false=>exact hx.noshare t hs
theorem OpPost.row {P:Program} {n ver:Nat} {B B0:Blk} {L:Loc} {b:Nat} {cs':Array Value} {ns:List Nat} (hr:HR P W F E N h) (hF:∀b,F b→b<W.heap.size)
  (hn:h[n]? = some (ver,some B0)) (hL:E.m n ver=some L) (hb:L.has b) (hb1:∀x,L.has x→x=b) (hfree:¬F b) (hns:n ∉ ns)
  (hB:f0e P (W.setRow b cs') (a0g F h E ns) E L B) :
  OpPost P W F E N h (W.setRow b cs') (a0g F h E ns) E (a0i h ns++[(n,ver,some B)]):=by
 have hat:atName h E n b:=⟨ver,B0,L,hn,hL,hb⟩;have hN:=(hr.blk n ver B0 hn).1;have hlt:n<h.length:=by
  rcases Nat.lt_or_ge n h.length with q | q
  ·exact q
  ·rw[List.getElem?_eq_none q] at hn;cases hn
 refine OpPost.turn (row:=some b) hr hF hN hlt (EnvLe.refl E) (hr.top n ver _ hN hn).symm (fun _ _=>rfl) ⟨rfl,rfl,rfl,by simp,fun k _ hk=>setRow_other W b k cs' (fun e=>hk (by rw[e]))⟩
  (fun x hx => ?_) (fun _ hb=>hb) (fun _ hb => .inl hb) ⟨L,hL,hB,fun x hx => .inl (by rw[hb1 x hx])⟩
 injection hx with hx;subst hx;refine ⟨hat,?_⟩;rintro (hf | ⟨m,hm,hat'⟩)
 ·exact hfree hf
 ·exact hns (b0h hr hat' hat ▸ hm)
theorem m0e {ns:List Nat} {P:Program} {n b:Nat} {cs':Array Value} (hr:HR P W F E N h) (hat:atName h E n b) (hfree:¬F b) (hns:n ∉ ns):Later W (a0g F h E ns) (W.setRow b cs') (a0g F h E ns):=by
 refine ⟨rfl,rfl,rfl,by simp,fun k hk=>setRow_other W b k cs' (fun e => ?_),fun _ hb=>hb⟩;subst e;rcases hk with hk | ⟨m,hm,hat'⟩
 ·exact hfree hk
 ·exact hns (b0h hr hat' hat ▸ hm)
theorem d0r {P:Program} (g o:Nat) (t:TypeId) {m:Nat×Nat}:∀(vs:List Value) (i:Nat) (cur:Array Value) (w:World),l1m m cur.size→w.heap[g]? = some (.cells cur t m)→o+i+vs.length≤cur.size→(∀v∈vs,v.oneCell'=true) →
  (storeCells ⟨g,o,none⟩ vs i).run P w = .ok () (w.setRow g (cur.toList.take (o+i)++vs++cur.toList.drop (o+i+vs.length)).toArray)
 | [],i,cur,w,_,hg,_,_=>by
  simp only[storeCells,List.append_nil,List.length_nil,Nat.add_zero,List.take_append_drop,Array.toArray_toList];rw[setRow_self w g cur t m hg];rfl
 | v::rest,i,cur,w,hm,hg,hl,h1=>by
  have hi:o+i<cur.size:=by simp at hl;omega
  have hadd:(⟨g,o,none⟩:Addr).add i=⟨g,o+i,none⟩:=by unfold Addr.add;split<;>simp_all
  have hcell:w.cell? ⟨g,o+i,none⟩=some cur[o+i]:=by simp[World.cell?,hg,hi]
  have hfro:w.frozen? ⟨g,o+i,none⟩=false:=by
   obtain ⟨lo,hi2⟩:=m;simp only[World.frozen?,hg];have hno:¬(lo≤o+i∧o+i<hi2):=by
    rcases hm with h | h<;>simp only at h<;>omega
   by_cases h2:lo≤o+i
   ·have h3:¬(o+i<hi2):=fun k=>hno ⟨h2,k⟩
    simp[h3]
   ·simp[h2]
  have hst:(store ((⟨g,o,none⟩:Addr).add i) v).run P w = .ok () (w.setRow g (cur.setIfInBounds (o+i) v)):=by
   rw[hadd,run_store P w _ v _ (h1 v (by simp)),hcell];simp[hfro,setCell_eq_setRow w g (o+i) cur t m v hg]
  have ih:=d0r (P:=P) g o t (m:=m) rest (i+1) (cur.setIfInBounds (o+i) v) (w.setRow g (cur.setIfInBounds (o+i) v)) (by simpa using hm) (setRow_heap w g cur _ t _ hg) (by simp at hl ⊢;omega) (fun x hx=>h1 x (by simp[hx]));simp only[storeCells,Sem.run_bind,hst,Result.andThen_ok,ih,setRow_setRow];congr 3;have e:=list_seg_step cur.toList (o+i) v rest (by simp at hl ⊢;omega)
  simpa [Array.toList_setIfInBounds,Nat.add_assoc] using e
theorem h0u {t:TypeId} {b off:Nat} {cur:Array Value} {T:TypeId} {m:Nat×Nat} {v:Value} {c:Ty} (ht:e0d cx) (hc:cx.ty t=some c) (hw:v.cells.size=width c) (hm:l1m m cur.size) (hg:W.heap[b]? = some (.cells cur T m))
  (hle:off+v.cells.size≤cur.size) (h1:∀u∈v.cells.toList,u.oneCell'=true) :
  (Instr.storeAt t (.pointer (some ⟨b,off,none⟩)) v).run cx.P W = .ok () (W.setRow b (b0j cur off v.cells.toList)):=by
 obtain ⟨ti,k1,k2,_⟩:=(k0k ht hc).ti;have:=d0r (P:=cx.P) b off T v.cells.toList 0 cur W hm hg (by simpa using hle) h1;simp only[Nat.add_zero] at this;have e:v.cells.size=ti.size:=by rw[hw,k2]
 simp only[Instr.storeAt,Instr.sureAddr,storeVar,sizeOf,typeInfo,b0j,Sem.run_bind,Sem.run_pure,Result.andThen_ok,run_program,k1,e,ne_eq,not_true_eq_false,if_false,this]
theorem s0g {cs new c:List Cell} {off:Nat} (hs:splice cs off new=some c):off+new.length≤cs.length∧c=cs.take off++new++cs.drop (off+new.length):=by
 unfold splice at hs;split at hs
 ·injection hs with hs;exact ⟨by assumption,hs.symm⟩
 ·cases hs
theorem y0k {P:Program} {cs new c:List Cell} {off:Nat} {vs us:List Value} (hs:splice cs off new=some c) (h1:a0d P W F E cs vs) (h2:a0d P W F E new us) :
  off+us.length≤vs.length∧a0d P W F E c (vs.take off++us++vs.drop (off+us.length)):=by
 obtain ⟨k1,rfl⟩:=s0g hs;have e1:=h1.1;have e2:=h2.1;refine ⟨by omega,?_⟩;have:=((h1.take off).append h2).append (h1.drop (off+new.length));rw[e2] at this;rw[e2];exact this
theorem b1d {cx:Cx} {call:Oracle cx} {W:World} {F:Fz} {E:EnvM} {h:Heap} {N:Nat→Prop} (hc:CallSound cx call W F) (hr:HR cx.P W F E N h) {e:Ty}:∀(n:Nat) (cs:List Cell) (ys:List (El e)) (ns:List Nat),k0r cx call h e n cs=some (ys,ns)→∀vs:List Value,a0d cx.P W F E cs vs →
  ys.length=n∧vs.length=n*width e∧∀i (hi:i<ys.length),Rd cx.P e ys[i] W (a0g F h E ns) (fun j=>vs[i*width e+j]?):=by
 intro n;induction n with
 | zero =>
  intro cs ys ns hp vs hv;cases cs with
  | nil =>
   simp only[k0r,Option.some.injEq,Prod.mk.injEq] at hp;obtain ⟨rfl,rfl⟩:=hp;exact ⟨rfl,by have:=hv.1;simp at this;simp[←this],fun i hi=>by simp at hi⟩
  | cons c r=>simp[k0r] at hp
 | succ n ih =>
  intro cs ys ns hp vs hv;simp only[k0r] at hp;cases h1:i0o cx call h e cs with
  | none=>rw[h1] at hp;cases hp
  | some x =>
   rw[h1] at hp;simp only[Option.bind_some] at hp;cases h2:k0r cx call h e n x.2.1 with
   | none=>rw[h2] at hp;cases hp
   | some y =>
    rw[h2] at hp;simp only[Option.map_some,Option.some.injEq,Prod.mk.injEq] at hp;obtain ⟨rfl,rfl⟩:=hp;obtain ⟨a1,a2,a3⟩:=y0x hc hr e cs x.1 x.2.1 x.2.2 h1 vs hv;obtain ⟨b1,b2,b3⟩:=ih _ y.1 y.2 h2 _ a2;rw[List.length_drop] at b2;refine ⟨by simp[b1],by rw[Nat.succ_mul];omega,fun i hi => ?_⟩;cases i with
    | zero =>
     refine Rd.congr e (fun j _ => ?_) (a1.later (Later.same a0g.left));rw[Nat.zero_mul,Nat.zero_add]
    | succ i =>
     simp only[List.length_cons] at hi;refine Rd.congr e (fun j _ => ?_) ((b3 i (by omega)).later (Later.same a0g.right));rw[List.getElem?_drop];congr 1;rw[Nat.succ_mul];omega
theorem op_store {o:Oper} {k:V→Ups→Option R} {r:R} {t:TypeId} {p x:Operand} {c:Ty} {pc:Cell} {ag:Bool} {new:List Cell} (cc:Ctx cx call W F E N h ρ a) (ho:o.op = .store t p x)
  (ht:cx.ty t=some c) (hp:ρ p = .v false [pc]) (hx:ρ x = .v ag new) (hw:new.length=width c)
  (hk:u0w cx call h pc new (fun u=>k .undef u)=some r):a0r cx W F E N h a o k r:=by
 have hpv:=cc.ρ p;rw[hp] at hpv
 replace hpv:=hpv.single.1
 have hxv:=cc.ρ x;rw[hx] at hxv;have hsz:(a.eval x).cells.size=width c:=by have:=hxv.1.1;simp at this;omega
 have hone:∀u∈(a.eval x).cells.toList,u.oneCell'=true:=by
  intro u hu;obtain ⟨j,hj,e⟩:=List.mem_iff_getElem.1 hu;have hj2:j<new.length:=by rw[hxv.1.1];exact hj
  exact (hxv.1.2 j _ u (List.getElem?_eq_getElem hj2) (by rw[List.getElem?_eq_getElem hj,e])).2
 unfold u0w at hk;split at hk
 case h_3=>cases hk
 ·-- a box
  rename_i n ver off;split at hk
  case h_2=>cases hk
  rename_i ver' bt cs hn;split at hk
  case isFalse=>cases hk
  rename_i e;subst e;split at hk
  case h_2=>cases hk
  rename_i c' hs;obtain ⟨b,arr,T,k1,k2,k3,k4,k5,_⟩:=o0f cc.hr hn;have hptr:a.eval p = .pointer (some ⟨b,off,none⟩):=hpv.2.2 _ k1;obtain ⟨m1,m2⟩:=y0k hs k3 hxv.1;have hle:off+(a.eval x).cells.size≤arr.size:=by simpa using m1
  have hrun:=h0u (v:=a.eval x) (off:=off) cc.tab ht hsz (.inl rfl) k2 hle hone;have hat:atName h E n b:=⟨ver,_,_,hn,k1,rfl⟩;have hpost:=OpPost.row (ns:=[]) (B := .box bt c' false) (cs':=b0j arr off (a.eval x).cells.toList) cc.hr cc.hF hn k1 rfl (fun _ h=>h) (k5 rfl) (by simp)
   (by
    rw[a0j];refine ⟨b,_,T,rfl,setRow_heap W b arr _ T _ k2,?_,?_,fun _=>k5 rfl,fun e=>by cases e⟩
    ·have hl:=m0e (ns:=[]) (cs':=b0j arr off (a.eval x).cells.toList) cc.hr hat (k5 rfl) (by simp);rw[a0j] at hl;have:=m2.later hl (EnvLe.refl E)
     simpa [b0j] using this
    ·obtain ⟨q1,q2⟩:=s0g hs
     rw[←k4,q2];simp;omega)
  exact ⟨_,_,hk,OpOk.skip (by simp[execOp,ho,hptr,hrun]) hpost⟩
 ·-- an element
  rename_i n ver i off;split at hk
  case h_2=>cases hk
  rename_i ver' e xs hn;split at hk
  case isFalse=>cases hk
  rename_i hver;subst hver;cases hb:Nat.ble (off+new.length) (width e) with
  | false =>
   rw[hb] at hk;simp only[cond_false] at hk;cases hb2:Nat.beq i 0&&Nat.beq off 0 with
   | false=>rw[hb2] at hk;cases hk
   | true =>
    rw[hb2] at hk;simp only[cond_true] at hk;rw[Bool.and_eq_true] at hb2;obtain ⟨hi0,ho0⟩:=hb2;have hi0:=Nat.eq_of_beq_eq_true hi0;have ho0:=Nat.eq_of_beq_eq_true ho0;subst hi0;subst ho0;split at hk
    case h_2=>cases hk
    rename_i ys lent hparse;obtain ⟨hl,hk⟩:=a0l hk;simp only[decide_eq_true_eq] at hl;split at hk
    case isTrue=>cases hk
    rename_i hnl;rcases c0p cc.hr hn with ⟨k1,_⟩ | ⟨b,cap,k1,⟨cs,T,q1,q2,q3,q4,q5,q6⟩,k2,_⟩
    ·exact (hpv.2.2 _ k1:False).elim
    ·have hptr:a.eval p = .pointer (some ⟨b,0*width e+0,none⟩):=hpv.2.2 _ k1;obtain ⟨p1,p2,p3⟩:=b1d cc.hc cc.hr _ _ _ _ hparse _ hxv.1;simp only[Nat.zero_mul,Nat.zero_add] at hptr;have hlen:(a.eval x).cells.toList.length=(a.eval x).cells.size:=by simp
     have hle:0+(a.eval x).cells.size≤cs.size:=by
      rw[←hlen,p2,q2,←hl,Nat.zero_add];exact Nat.mul_le_mul_right _ q3
     have hrun:=h0u (v:=a.eval x) (off:=0) cc.tab ht hsz T.2 q1 hle hone;have hat:atName h E n b:=⟨ver,_,_,hn,k1,rfl⟩;have hnl':n ∉ (if shares e=true then lent else []):=by
      intro hm;split at hm
      ·exact hnl (b0r.2 hm)
      ·cases hm
     have hla:=m0e (cs':=b0j cs 0 (a.eval x).cells.toList) cc.hr hat (k2 rfl) hnl';have hpost:=OpPost.row (B := .arr e ys false) (ns:=if shares e=true then lent else []) (cs':=b0j cs 0 (a.eval x).cells.toList) cc.hr cc.hF hn k1 rfl (fun _ h=>h) (k2 rfl) hnl'
      (by
       refine .inr ⟨b,cap,by rw[p1,←hl],⟨_,⟨T.1,by rw[size_put (by rw[hlen];exact hle)];exact T.2⟩,setRow_heap W b cs _ T.1.1 _ q1,by rw[size_put (by rw[hlen];exact hle)];exact q2,by rw[p1,←hl];exact q3,q4,p0y q5 hone,fun j hj => ?_⟩,fun _ hf => ?_,fun e=>by cases e⟩
       ·refine Rd.later (Rd.congr e ?_ (p3 j hj).lent) hla;intro q hq;have hin:j*width e+width e≤(a.eval x).cells.toList.length:=by
         rw[p2,←Nat.succ_mul,←p1];exact Nat.mul_le_mul_right _ hj
        rw[get_put (by rw[hlen];exact hle),if_neg (by omega),if_pos (by omega)];rfl
       ·rcases hf with hf | ⟨m,hm,hat'⟩
        ·exact k2 rfl hf
        ·exact hnl' (b0h cc.hr hat' hat ▸ hm))
     exact ⟨_,_,hk,OpOk.skip (by simp[execOp,ho,hptr,hrun]) hpost⟩
  | true =>
  rw[hb] at hk;simp only[cond_true] at hk;cases hi:xs[i]? with
  | none=>rw[hi] at hk;cases hk
  | some y =>
   rw[hi] at hk;simp only[Option.bind_some] at hk;split at hk
   case h_2=>cases hk
   rename_i c' hs;split at hk
   case h_2=>cases hk
   rename_i z lent hparse;split at hk
   case isTrue=>cases hk
   rename_i hnl;have hlt:i<xs.length:=by
    rcases Nat.lt_or_ge i xs.length with q | q
    ·exact q
    ·rw[List.getElem?_eq_none q] at hi;cases hi
   have hy:xs[i]=y:=by rw[List.getElem?_eq_getElem hlt] at hi;injection hi
   rcases c0p cc.hr hn with ⟨_,rfl⟩ | ⟨b,cap,k1,⟨cs,T,q1,q2,q3,q4,q5,q6⟩,k2,_⟩
   ·simp at hlt
   ·have hptr:a.eval p = .pointer (some ⟨b,i*width e+off,none⟩):=hpv.2.2 _ k1;obtain ⟨vs,m1,m2,m3⟩:=h0x (E:=E) e y _ (hy ▸ q6 i hlt);obtain ⟨m4,m5⟩:=y0k hs m3 hxv.1;obtain ⟨m6,m7⟩:=n0z cc.hc cc.hr hparse m5;have hin:i*width e+width e≤cs.size:=by
     rw[q2,←Nat.succ_mul];exact Nat.mul_le_mul_right _ (by omega)
    have hlen:(a.eval x).cells.toList.length=(a.eval x).cells.size:=by simp
    have hle:i*width e+off+(a.eval x).cells.size≤cs.size:=by omega
    have hrun:=h0u (v:=a.eval x) (off:=i*width e+off) cc.tab ht hsz T.2 q1 hle hone;have hat:atName h E n b:=⟨ver,_,_,hn,k1,rfl⟩;have hnl':n ∉ (if shares e=true then lent else []):=by
     intro hm;split at hm
     ·exact hnl (b0r.2 hm)
     ·cases hm
    have hl:=m0e (cs':=b0j cs (i*width e+off) (a.eval x).cells.toList) cc.hr hat (k2 rfl) hnl';have hpost:=OpPost.row (B := .arr e (xs.set i z) false) (ns:=if shares e=true then lent else []) (cs':=b0j cs (i*width e+off) (a.eval x).cells.toList) cc.hr cc.hF hn k1 rfl (fun _ h=>h) (k2 rfl) hnl'
     (by
      refine .inr ⟨b,cap,by rw[List.length_set],⟨_,⟨T.1,by rw[size_put (by rw[hlen];exact hle)];exact T.2⟩,setRow_heap W b cs _ T.1.1 _ q1,by rw[size_put (by rw[hlen];exact hle)];exact q2,by rw[List.length_set];exact q3,q4,p0y q5 hone,fun j hj => ?_⟩,fun _ hf => ?_,fun e=>by cases e⟩
      ·rw[List.length_set] at hj;by_cases hji:j=i
       ·subst hji;rw[List.getElem_set_self];refine Rd.later (Rd.congr e ?_ m6.lent) hl;intro q hq;rw[get_put (by rw[hlen];exact hle),hlen];have h1:=m2 q hq;rw[List.append_assoc,List.getElem?_append];have ht1:(vs.take off).length=off:=by rw[List.length_take];omega
        rw[ht1];by_cases hq1:q<off
        ·rw[if_pos (by omega),if_pos hq1,List.getElem?_take,if_pos hq1];exact h1
        ·rw[if_neg (by omega),if_neg hq1,List.getElem?_append,hlen];by_cases hq2:q<off+(a.eval x).cells.size
         ·rw[if_pos (by omega),if_pos (by omega)];congr 1;omega
         ·rw[if_neg (by omega),if_neg (by omega),List.getElem?_drop,h1];congr 1;omega
       ·rw[List.getElem_set_ne (fun q=>hji q.symm)];have:=(q6 j hj).later ((a0z (h:=h) (E:=E) (if shares e=true then lent else [])).trans hl);refine Rd.congr e ?_ this;intro q hq;rw[get_put (by rw[hlen];exact hle),hlen];rcases Nat.lt_or_ge j i with hlt2 | hge
        ·have:j*width e+width e≤i*width e:=by rw[←Nat.succ_mul];exact Nat.mul_le_mul_right _ hlt2
         rw[if_pos (by omega)]
        ·have:i*width e+width e≤j*width e:=by rw[←Nat.succ_mul];exact Nat.mul_le_mul_right _ (by omega)
         rw[if_neg (by omega),if_neg (by omega)]
      ·rcases hf with hf | ⟨m,hm,hat'⟩
       ·exact k2 rfl hf
       ·exact hnl' (b0h cc.hr hat' hat ▸ hm))
    exact ⟨_,_,hk,OpOk.skip (by simp[execOp,ho,hptr,hrun]) hpost⟩
end
end Go.Flat
end
section
namespace Go.Flat
open Go.RowKit (Below)
section
variable {cx:Cx} {call:Oracle cx} {fx:Hints} {W W':World} {F F':Fz} {E E':EnvM} {h:Heap} {N:Nat→Prop} {ρ:Operand→V} {a:Act} {R:Type}
theorem a0d.get0 {P:Program} {c:Cell} {vs:List Value} (hv:a0d P W F E [c] vs):∃v,vs[0]? = some v∧b0q P W F E c v:=by
 obtain ⟨v,r,rfl,h1,_,_⟩:=hv.uncons;exact ⟨v,rfl,h1⟩
theorem r0z {P:Program}:∀(e:Ty) (z:El e) (vs:List Value),i0b e=some z→a0d P W F E (zeroCells e) vs→Rd P e z W F (fun j=>vs[j]?):=by
 intro e;induction e with
 | unit=>intro z vs _ _;trivial
 | pair a b iha ihb =>
  intro z vs hz hv;simp only[i0b,Option.bind_eq_some_iff,Option.map_eq_some_iff] at hz;obtain ⟨x,hx,y,hy,rfl⟩:=hz;have h1:=hv.take (width a);have h2:=hv.drop (width a);simp only[zeroCells] at h1 h2;rw[List.take_left' (d0l a)] at h1;rw[List.drop_left' (d0l a)] at h2;refine ⟨Rd.congr a ?_ (iha x _ hx h1),Rd.congr b ?_ (ihb y _ hy h2)⟩
  ·intro j hj;rw[List.getElem?_take,if_pos hj]
  ·intro j _;rw[List.getElem?_drop]
 | wrap e ih=>intro z vs hz hv;exact ih z vs hz hv
 | bool =>
  intro z vs hz hv;simp only[i0b,Option.some.injEq] at hz;subst hz;obtain ⟨v,h1,h2⟩:=a0d.get0 hv;have:=h2.2.2;simp only[Rd,RdP] at this ⊢;rw[h1];simpa using this
 | int k =>
  intro z vs hz hv;simp only[i0b,Option.some.injEq] at hz;subst hz;obtain ⟨v,h1,h2⟩:=a0d.get0 hv;have:=h2.2.2;simp only[Rd,RdP] at this ⊢;rw[h1];simpa using this
 | str =>
  intro z vs hz hv;simp only[i0b,Option.some.injEq] at hz;subst hz;obtain ⟨v,h1,h2⟩:=a0d.get0 hv;have:=h2.2.2;simp only[Rd,RdP] at this ⊢;rw[h1];simpa using this
 | slice e _ =>
  intro z vs hz hv;simp only[i0b,Option.some.injEq] at hz;subst hz;obtain ⟨v,h1,p,h2⟩:=a0d.get0 hv;exact .inl ⟨rfl,p,by show vs[0]? = _;rw[h1,h2]⟩
 | ptr e _=>intro z vs hz;cases hz
 | fn a r _ _=>intro z vs hz;cases hz
 | own e _=>intro z vs hz;cases hz
 | ref e _=>intro z vs hz;cases hz
 | opt e _=>intro z vs hz;cases hz
 | row e _=>intro z vs hz;cases hz
 | seg e _=>intro z vs hz;cases hz
 | err=>intro z vs hz;cases hz
 | sb T e=>intro z vs hz;cases hz
 | mp k e _ _=>intro z vs hz;cases hz
 | seq e _=>intro z vs hz;cases hz
 | ls e _=>intro z vs hz;cases hz
 | tk k=>intro z vs hz;cases hz
 | tref k e _=>intro z vs hz;cases hz
theorem a0d.one_all {P:Program} {cs:List Cell} {vs:List Value} (hv:a0d P W F E cs vs):∀u∈vs,u.oneCell'=true:=by
 intro u hu;obtain ⟨j,hj,e⟩:=List.mem_iff_getElem.1 hu;have hj2:j<cs.length:=by rw[hv.1];exact hj
 exact (hv.2 j _ u (List.getElem?_eq_getElem hj2) (by rw[List.getElem?_eq_getElem hj,e])).2
theorem x0i {z:Array Value} {n q:Nat} (hq:q<n):(madeCells z n)[q]? = some z[q % z.size]! := by
 simp[madeCells,hq]
theorem n0e {z:Array Value} {n:Nat} (hz:∀u∈z.toList,u.oneCell'=true) (hpos:0<z.size):∀u∈(madeCells z n).toList,u.oneCell'=true:=by
 intro u hu;simp only[madeCells,Array.toList_map,List.mem_map] at hu;obtain ⟨q,_,rfl⟩:=hu;have hlt:q % z.size<z.size:=Nat.mod_lt _ hpos;rw[getElem!_pos z _ hlt];exact hz _ (by simp)
theorem d1f {P:Program} {W:World} {F:Fz} {e:Ty} {x:El e} {z:Array Value} {n i:Nat} (hz:z.size=width e) (hx:Rd P e x W F (fun j=>z.toList[j]?)) (hi:i<n) :
  Rd P e x W F (fun j=>(madeCells z (n*width e))[i*width e+j]?):=by
 refine Rd.congr e (fun q hq => ?_) hx;have hlt:i*width e+q<n*width e:=by
  have:i*width e+width e≤n*width e:=by rw[←Nat.succ_mul];exact Nat.mul_le_mul_right _ hi
  omega
 rw[x0i hlt,hz];have:(i*width e+q) % width e=q:=by rw[Nat.mul_comm,Nat.mul_add_mod,Nat.mod_eq_of_lt hq]
 rw[this,getElem!_pos z q (by omega)];simp[hz,hq]
theorem b1k {o:Oper} {k:V→Ups→Option R} {r:R} {t:TypeId} {c e:Ty} {z:El e} {n:Nat} (cc:Ctx cx call W F E N h ρ a) (hK:KOk N h k) (ho:o.op = .alloc t) (ht:cx.ty t=some c) (hrow:rowTy cx t c=some ⟨e,z,n⟩)
  (hk:k (.v false [.lrow (nmOf fx o) (a0h h (nmOf fx o)+1)]) [(nmOf fx o,a0h h (nmOf fx o)+1,some (.arr e (List.replicate n z) false))]=some r):a0r cx W F E N h a o k r:=by
 have hty:=k0k cc.tab ht;obtain ⟨ti,h1,h2,z',h3,h4,h5⟩:=hty.ti;obtain ⟨et,r1,r2,r3,r4,r5,r6⟩:=e1s hrow;obtain ⟨hN,hlt⟩:=hK _ _ _ hk (nmOf fx o) (by simp[a0e]);have hzc:a0d cx.P W F E (zeroCells c) z'.cells.toList:=e0r h4;have hflat:zeroCells c=(List.replicate n (zeroCells e)).flatten:=by
  rw[r3];show zeroCells (tup (List.replicate n e))=_;rw[o0h,List.map_replicate]
 have hsz:z'.cells.size=n*width e:=by
  have:=hzc.1;rw[hflat,List.length_flatten,List.map_replicate,d0l,List.sum_replicate_nat] at this
  simpa using this.symm
 have hlen:(List.replicate n z).length=n:=List.length_replicate;have hpost:=OpPost.new (T:=t) (cs:=z'.cells) (W0:=W) (ns:=[]) (L := .arr W.heap.size (width e) (List.replicate n z).length n) (B := .arr e (List.replicate n z) false) cc.hr cc.hF hN hlt ⟨rfl,rfl,rfl,Nat.le_refl _,fun _ _ _=>rfl⟩ rfl (fun _ h=>h)
  (by
   rw[a0j];refine .inr ⟨W.heap.size,n,rfl,⟨_,⟨(t,(0,0)),.inl rfl⟩,j0h W _,hsz,by rw[hlen];exact Nat.le_refl _,⟨by simp only[maxLen];omega,r5⟩,a0d.one_all hzc,fun i hi => ?_⟩,fun _ hf => ?_,fun e=>by cases e⟩
   ·rw[hlen] at hi;rw[List.getElem_replicate];have hl:Later W F (W.alloc (.cells z'.cells t)) F:=⟨rfl,rfl,rfl,by simp,fun b hb=>f0p W _ b (cc.hF b hb),fun _ hb=>hb⟩;have hp:=(hzc.drop (i*width e)).take (width e);rw[hflat] at hp;have hpiece:=f1x (zs:=zeroCells e) n i hi;rw[d0l] at hpiece;rw[hpiece] at hp;refine Rd.congr e (fun j hj => ?_) ((r0z e z _ r2 hp).later hl);rw[List.getElem?_take,if_pos hj,List.getElem?_drop,Array.getElem?_toList]
   ·have:=cc.hF _ hf;omega)
 refine ⟨_,_,hk,OpOk.of (v := .pointer (some ⟨W.heap.size,0,none⟩)) ?_ hpost (RdV.mk1 ⟨?_,⟨.arr W.heap.size (width e) (List.replicate n z).length n,?_⟩,fun L hL => ?_⟩ rfl)⟩
 ·simp[execOp,ho,Instr.alloc,zeroValue,typeInfo,h1,h3,newVar,newRow]
 ·rw[a0y cc.hr hN hlt,EnvM.next_top];exact Nat.le_refl _
 ·rw[a0y cc.hr hN hlt,EnvM.next_m]
 ·rw[a0y cc.hr hN hlt,EnvM.next_m] at hL;injection hL with hL;subst hL;exact ⟨rfl,hlen⟩
theorem z0e {o:Oper} {k:V→Ups→Option R} {r:R} {t et:TypeId} {l c:Operand} {e:Ty} {n m:Int} {z:El e} (cc:Ctx cx call W F E N h ρ a) (hK:KOk N h k) (ho:o.op = .makeSlice t l c)
  (hs:cx.shp t = .slice et) (he:cx.ty et=some e) (hl:h0p (ρ l)=some n) (hm:h0p (ρ c)=some m) (hz:i0b e=some z) (hw:(e0f cx et e&&Nat.blt 0 (cx.bytes et))=true)
  (hk:must (decide (0≤n)&&(decide (n≤m)&&decide (m*(cx.bytes et:Int)≤140737488355328)))
    (k (.v false [.lall (nmOf fx o) (a0h h (nmOf fx o)+1)]) [(nmOf fx o,a0h h (nmOf fx o)+1,some (.arr e (List.replicate n.toNat z) false))])=some r):a0r cx W F E N h a o k r:=by
 obtain ⟨h1,hk⟩:=a0l hk;simp only[Bool.and_eq_true,decide_eq_true_eq] at h1 hw;obtain ⟨h1,h2,h3⟩:=h1;obtain ⟨hN,hlt⟩:=hK _ _ _ hk (nmOf fx o) (by simp[a0e]);obtain ⟨ti,t1,t2,z',t3,t4,t5⟩:=(k0k cc.tab he).ti;obtain ⟨ti',t1',t2'⟩:=i0y cc.tab hw.1;have hbytes:ti.bytes=cx.bytes et:=by
  unfold Cx.bytes;cases hi:cx.info et with
  | none=>simp[Cx.ty,hi] at he
  | some i =>
   obtain ⟨tj,j1,_,j2,_⟩:=(cc.tab et i hi).info;rw[t1] at j1;injection j1 with j1;subst j1;exact j2
 have hb0:0<cx.bytes et:=by simpa [Nat.blt_eq] using hw.2
 have hwpos:0<width e:=by
  have:=hw.1;unfold e0f at this;simp only[Bool.and_eq_true,Bool.not_eq_true'] at this;rcases Nat.eq_zero_or_pos (width e) with q | q
  ·rw[q] at this;exact absurd this.2 (by decide)
  ·exact q
 have hm0:0≤m:=by omega
 have hmb:m≤m*(cx.bytes et:Int):=by
  have:=Int.mul_le_mul_of_nonneg_left (show (1:Int)≤(cx.bytes et:Int) by omega) hm0
  simpa using this
 obtain ⟨kl,hl'⟩:=j0z hl (cc.ρ l);obtain ⟨kc,hc'⟩:=j0z hm (cc.ρ c);have hrun:=run_make (P:=cx.P) W t et ti z' (c0l cc.tab hs) t1 t3 kl kc n m h1 h2 (by rw[hbytes,Int.mul_comm];omega) (by omega);rw[t2] at hrun;have hzc:a0d cx.P W F E (zeroCells e) z'.cells.toList:=e0r t4;have hzsz:z'.cells.size=width e:=by have:=hzc.1;rw[d0l] at this;simpa using this.symm
 have hlen:(List.replicate n.toNat z).length=n.toNat:=List.length_replicate;rcases Nat.eq_zero_or_pos m.toNat with hm00 | hmpos
 ·have hn0:n.toNat=0:=by omega
  have hpost:=OpPost.newNil (T:=et) (cs:=madeCells z'.cells (m.toNat*width e)) (W0:=W) (ns:=[]) (B := .arr e (List.replicate n.toNat z) false) cc.hr cc.hF hN hlt ⟨rfl,rfl,rfl,Nat.le_refl _,fun _ _ _=>rfl⟩ rfl
   (.inl ⟨rfl,by rw[hn0];rfl⟩)
  refine ⟨_,_,hk,OpOk.of (v := .slice (some ⟨W.heap.size,0,none⟩) n.toNat m.toNat) ?_ hpost (RdV.mk1 ⟨?_,⟨.nil,?_⟩,fun L hL => ?_⟩ rfl)⟩
  ·simp[execOp,ho,hl',hc',hrun]
  ·rw[a0y cc.hr hN hlt,EnvM.next_top];exact Nat.le_refl _
  ·rw[a0y cc.hr hN hlt,EnvM.next_m]
  ·rw[a0y cc.hr hN hlt,EnvM.next_m] at hL;injection hL with hL;subst hL;rw[hn0,hm00];exact ⟨_,rfl⟩
 have hpost:=OpPost.new (T:=et) (cs:=madeCells z'.cells (m.toNat*width e)) (W0:=W) (ns:=[]) (L := .arr W.heap.size (width e) (List.replicate n.toNat z).length m.toNat) (B := .arr e (List.replicate n.toNat z) false) cc.hr cc.hF hN hlt ⟨rfl,rfl,rfl,Nat.le_refl _,fun _ _ _=>rfl⟩ rfl (fun _ h=>h)
  (by
   rw[a0j];refine .inr ⟨W.heap.size,m.toNat,rfl,⟨_,⟨(et,(0,0)),.inl rfl⟩,j0h W _,size_madeCells _ _,by rw[hlen];omega,⟨by simp only[maxLen];omega,hmpos⟩,n0e (a0d.one_all hzc) (by omega),fun i hi => ?_⟩,fun _ hf => ?_,fun e=>by cases e⟩
   ·rw[hlen] at hi;rw[List.getElem_replicate];have hl:Later W F (W.alloc (.cells (madeCells z'.cells (m.toNat*width e)) et)) F:=⟨rfl,rfl,rfl,by simp,fun b hb=>f0p W _ b (cc.hF b hb),fun _ hb=>hb⟩;exact d1f hzsz ((r0z e z _ hz hzc).later hl) (by omega)
   ·have:=cc.hF _ hf;omega)
 refine ⟨_,_,hk,OpOk.of (v := .slice (some ⟨W.heap.size,0,none⟩) n.toNat m.toNat) ?_ hpost (RdV.mk1 ⟨?_,⟨.arr W.heap.size (width e) (List.replicate n.toNat z).length m.toNat,?_⟩,fun L hL => ?_⟩ rfl)⟩
 ·simp[execOp,ho,hl',hc',hrun]
 ·rw[a0y cc.hr hN hlt,EnvM.next_top];exact Nat.le_refl _
 ·rw[a0y cc.hr hN hlt,EnvM.next_m]
 ·rw[a0y cc.hr hN hlt,EnvM.next_m] at hL;injection hL with hL;subst hL;show _=Value.slice (some ⟨W.heap.size,0,none⟩) (List.replicate n.toNat z).length m.toNat;rw[hlen]
theorem OpPost.grow {P:Program} {ns:List Nat} (hr:HR P W F E N h) (hF:∀b,F b→b<W.heap.size) (hg:Grow W (a0g F h E ns) W' F'):OpPost P W F E N h W' F' E (a0i h ns):=by
 obtain ⟨hr1,hfz⟩:=HR.freeze ns hr (k0h.refl h);have hlt:∀b,a0g F h E ns b→b<W.heap.size:=fun b hb=>a0g.lt hr hF hb
 refine ⟨hr1.grow hg hlt (fun b ⟨m,hm⟩=>hr.lt b ⟨m,(hfz.atName m b).1 hm⟩),(a0z ns).trans (hg.later hlt),EnvLe.refl E,fun b hb _=>hg.below.block b hb,fun b hb => ?_,fun m b hm hat => ?_,fun _ _=>rfl⟩
 ·rcases hg.new b hb with (k | ⟨m,hm,k⟩) | k
  ·exact .inl k
  ·exact .inr (.inl ⟨m,q0b hm k,k⟩)
  ·exact .inr (.inr k)
 ·exact .inl ⟨m,hm,(hfz.atName m b).1 hat⟩
def e1d (P:Program) (W:World) (F:Fz) (E:EnvM) (w:Nat) (ls:List (List Cell)) (vs:Array Value):Prop :=
 vs.size=ls.length*w∧(∀u∈vs.toList,u.oneCell'=true)∧∀i c,ls[i]? = some c→a0d P W F E c ((vs.toList.drop (i*w)).take w)
theorem q0r {w n i j:Nat} (hi:i<n) (hj:j<w):i*w+j<n*w:=by
 have:i*w+w≤n*w:=by rw[←Nat.succ_mul];exact Nat.mul_le_mul_right _ hi
 omega
theorem v0n {P:Program} (w:Nat):∀(ps:List (Nat×Operand)) (ls:List (List Cell)) (vs:Array Value) (ls':List (List Cell)),(∀x,RdV P W F E (ρ x) (a.eval x)) →
  j0p w ls (ps.map fun x=>(x.1,ρ x.2))=some ls'→e1d P W F E w ls vs →
  ∃us,Instr.fill (fun i=>some (i*w,w)) vs (ps.map fun x=>(x.1,a.eval x.2))=some us∧e1d P W F E w ls' us∧ls'.length=ls.length:=by
 intro ps;induction ps with
 | nil =>
  intro ls vs ls' _ hb hv;simp[j0p] at hb;subst hb;exact ⟨vs,rfl,hv,rfl⟩
 | cons x ps ih =>
  intro ls vs ls' hρ hb hv;obtain ⟨i,x⟩:=x;simp only[List.map_cons] at hb ⊢;have hx:=hρ x;cases hq:ρ x with
  | tup l=>rw[hq] at hb;simp[j0p] at hb
  | undef=>rw[hq] at hb;simp[j0p] at hb
  | lost=>rw[hq] at hb;simp[j0p] at hb
  | v ag new =>
   rw[hq] at hb hx;unfold j0p at hb;split at hb
   case isFalse=>cases hb
   rename_i hw;obtain ⟨hw,hi⟩:=hw;have hl1:(a.eval x).cells.size=w:=by have:=hx.1.1;simp at this;omega
   have hin:i*w+w≤vs.size:=by rw[hv.1,←Nat.succ_mul];exact Nat.mul_le_mul_right _ hi
   have hle:i*w+(a.eval x).cells.toList.length≤vs.size:=by simp[hl1];exact hin
   obtain ⟨us,h1,h2,h3⟩:=ih (ls.set i new) (b0j vs (i*w) (a.eval x).cells.toList) ls' hρ hb (by
    refine ⟨by rw[size_put hle,List.length_set];exact hv.1,p0y hv.2.1 (a0d.one_all hx.1),fun j c hj => ?_⟩;rw[List.getElem?_set] at hj;by_cases e:i=j
    ·subst e;rw[if_pos rfl,if_pos hi] at hj;injection hj with hj;subst hj;have:((b0j vs (i*w) (a.eval x).cells.toList).toList.drop (i*w)).take w=(a.eval x).cells.toList:=by
      apply List.ext_getElem?;intro q;rw[List.getElem?_take,List.getElem?_drop,Array.getElem?_toList,get_put hle];simp only[Array.length_toList,hl1];by_cases hq:q<w
      ·rw[if_pos hq,if_neg (by omega),if_pos (by omega)];congr 1;omega
      ·rw[if_neg hq,List.getElem?_eq_none (by simp[hl1];omega)]
     rw[this];exact hx.1
    ·rw[if_neg e] at hj;have:((b0j vs (i*w) (a.eval x).cells.toList).toList.drop (j*w)).take w=(vs.toList.drop (j*w)).take w:=by
      apply List.ext_getElem?;intro q;rw[List.getElem?_take,List.getElem?_take];by_cases hq:q<w
      ·rw[if_pos hq,if_pos hq,List.getElem?_drop,List.getElem?_drop,Array.getElem?_toList,Array.getElem?_toList,get_put hle];simp only[Array.length_toList,hl1];rcases Nat.lt_or_ge j i with hlt2 | hge
       ·have:=q0r (w:=w) hlt2 hq;rw[if_pos this]
       ·have:i*w+w≤j*w:=by rw[←Nat.succ_mul];exact Nat.mul_le_mul_right _ (by omega)
        rw[if_neg (by omega),if_neg (by omega)]
      ·rw[if_neg hq,if_neg hq]
     rw[this]
     exact hv.2.2 j c hj)
   refine ⟨us,?_,h2,by rw[h3,List.length_set]⟩;unfold Instr.fill;simp only;rw[if_neg (by simp;omega)];have hf:=d1q (i*w) (a.eval x).cells.toList 0 vs (by simpa using hle);simp only[Nat.add_zero] at hf;unfold b0j at h1;rw[←hf] at h1;rw[←Array.foldl_toList,Array.toList_zipIdx];exact h1
theorem y0w {w:Nat} {e:Ty} (hc:CallSound cx call W F) (hr:HR cx.P W F E N h) (hw:w=width e):∀(ls:List (List Cell)) (xs:List (El e)) (ns:List Nat) (vs:List Value),j0u cx call h e ls=some (xs,ns) →
  (∀i c,ls[i]? = some c→a0d cx.P W F E c ((vs.drop (i*w)).take w)) →
  xs.length=ls.length∧∀i (hi:i<xs.length),Rd cx.P e xs[i] W (a0g F h E ns) (fun j=>vs[i*w+j]?):=by
 intro ls;induction ls with
 | nil =>
  intro xs ns vs hp _;simp[j0u] at hp;obtain ⟨rfl,rfl⟩:=hp;exact ⟨rfl,fun i hi=>by simp at hi⟩
 | cons c ls ih =>
  intro xs ns vs hp hv;simp only[j0u,Option.bind_eq_some_iff,Option.map_eq_some_iff] at hp;obtain ⟨x,hx,y,hy,hxy⟩:=hp;injection hxy with h1 h2;subst h1;subst h2;obtain ⟨k1,k2⟩:=n0z hc hr hx (hv 0 c rfl);obtain ⟨k3,k4⟩:=ih y.1 y.2 (vs.drop w) hy (fun i c hi=>by
   have:=hv (i+1) c (by simpa using hi);rw[List.drop_drop];rw[Nat.succ_mul,Nat.add_comm] at this
   exact this)
  refine ⟨by simp[k3],fun i hi => ?_⟩;cases i with
  | zero =>
   simp only[List.getElem_cons_zero];refine Rd.congr e (fun q hq => ?_) (k1.later (Later.same a0g.left));simp only[Nat.zero_mul,Nat.zero_add,List.drop_zero];rw[List.getElem?_take,if_pos (by omega)]
  | succ i =>
   simp only[List.getElem_cons_succ];have:=k4 i (by simpa using hi);refine Rd.congr e (fun q hq => ?_) (this.later (Later.same a0g.right));rw[List.getElem?_drop];congr 1;rw[Nat.succ_mul];omega
end
end Go.Flat
end
section
namespace Go.Flat
open Go.RowKit (Below)
section
variable {cx:Cx} {call:Oracle cx} {fx:Hints} {W W':World} {F F':Fz} {E E':EnvM} {h:Heap} {N:Nat→Prop} {ρ:Operand→V} {a:Act} {R:Type}
theorem s0k {et:TypeId} {e:Ty} (hw:e0f cx et e=true):0<width e:=by
 unfold e0f at hw;simp only[Bool.and_eq_true,Bool.not_eq_true'] at hw;rcases Nat.eq_zero_or_pos (width e) with q | q
 ·rw[q] at hw;exact absurd hw.2 (by decide)
 ·exact q
theorem x0g {o:Oper} {k:V→Ups→Option R} {r:R} {t et:TypeId} {n:Nat} {ps:Array (Nat×Operand)} {e:Ty} {ls:List (List Cell)} {xs:List (El e)} {lent:List Nat}
  (cc:Ctx cx call W F E N h ρ a) (hK:KOk N h k) (ho:o.op = .buildSlice t n ps)
  (hs:cx.shp t = .slice et) (he:cx.ty et=some e) (hp:j0p (width e) (List.replicate n (zeroCells e)) (ps.toList.map fun x=>(x.1,ρ x.2))=some ls)
  (hw:(e0f cx et e&&Nat.ble (n*width e) 16777216)=true) (hx:j0u cx call h e ls=some (xs,lent))
  (hk:(if u0g fx o then k (.v false [.lall (nmOf fx o) (a0h h (nmOf fx o)+1)]) (a0i h (if shares e then lent else [])++[(nmOf fx o,a0h h (nmOf fx o)+1,some (.arr e xs false))])
          else k (.v false [.val (.slice e) xs]) (a0i h (if shares e then lent else [])))=some r):a0r cx W F E N h a o k r:=by
 simp only[Bool.and_eq_true] at hw;have hle:n*width e≤16777216:=Nat.le_of_ble_eq_true hw.2;have hwpos:=s0k hw.1;obtain ⟨ti,t1,t2,z,t3,t4,t5⟩:=(k0k cc.tab he).ti;have hzc:a0d cx.P W F E (zeroCells e) z.cells.toList:=e0r t4;have hzsz:z.cells.size=width e:=by have:=hzc.1;rw[d0l] at this;simpa using this.symm
 have hrows:e1d cx.P W F E (width e) (List.replicate n (zeroCells e)) (madeCells z.cells (n*width e)):=by
  refine ⟨by rw[size_madeCells,List.length_replicate],n0e (a0d.one_all hzc) (by omega),fun i c hi => ?_⟩;have hin:i<n:=by
   rcases Nat.lt_or_ge i n with q | q
   ·exact q
   ·rw[List.getElem?_eq_none (by simpa using q)] at hi;cases hi
  rw[List.getElem?_replicate,if_pos hin] at hi;injection hi with hi;subst hi;have:((madeCells z.cells (n*width e)).toList.drop (i*width e)).take (width e)=z.cells.toList:=by
   apply List.ext_getElem?;intro q;rw[List.getElem?_take,List.getElem?_drop,Array.getElem?_toList];by_cases hq:q<width e
   ·rw[if_pos hq,x0i (q0r hin hq),hzsz];have:(i*width e+q) % width e=q:=by rw[Nat.mul_comm,Nat.mul_add_mod,Nat.mod_eq_of_lt hq]
    rw[this,getElem!_pos z.cells q (by omega)];simp[hzsz,hq]
   ·rw[if_neg hq,List.getElem?_eq_none (by simp[hzsz];omega)]
  rw[this];exact hzc
 obtain ⟨us,u1,u2,u3⟩:=v0n (width e) ps.toList _ _ ls cc.ρ hp hrows;obtain ⟨x1,x2⟩:=y0w cc.hc cc.hr rfl ls xs lent us.toList hx u2.2.2;rw[List.length_replicate] at u3;have hxn:xs.length=n:=by rw[x1,u3]
 have hrun:(Instr.buildSlice t n (ps.map fun x=>(x.1,a.eval x.2))).run cx.P W = .ok (.slice (some ⟨W.heap.size,0,none⟩) n n) (W.alloc (.cells us et)):=by
  have hu:=c0l cc.tab hs;by_cases hn:n*width e=0
  ·have e0:madeCells z.cells (n*width e) = #[]:=by rw[hn];simp[madeCells]
   rw[e0] at u1;simp[Instr.buildSlice,run_underlying hu,sizeOf,typeInfo,t1,t2,hn,newRow,Array.range_zero',u1]
  ·unfold madeCells at u1;simp[Instr.buildSlice,run_underlying hu,sizeOf,typeInfo,t1,t2,hn,show ¬16777216<n*width e by omega,zeroValue,t3,newRow,u1]
 have hl1:Later W (a0g F h E (if shares e=true then lent else [])) (W.alloc (.cells us et)) (a0g F h E (if shares e=true then lent else [])) :=
  ⟨rfl,rfl,rfl,by simp,fun b hb=>f0p W _ b (a0g.lt cc.hr cc.hF hb),fun _ hb=>hb⟩
 have hexec:(execOp a.eval o).run cx.P W = .ok (.value (.slice (some ⟨W.heap.size,0,none⟩) n n)) (W.alloc (.cells us et)):=by simp[execOp,ho,hrun]
 split at hk
 ·-- of one's own
  obtain ⟨hN,hlt⟩:=hK _ _ _ hk (nmOf fx o) (by simp[a0e]);rcases Nat.eq_zero_or_pos n with hn0 | hnpos
  ·have hxs:xs=[]:=List.eq_nil_of_length_eq_zero (by omega);have hpost:=OpPost.newNil (T:=et) (cs:=us) (W0:=W) (ns:=if shares e=true then lent else []) (B := .arr e xs false) cc.hr cc.hF hN hlt ⟨rfl,rfl,rfl,Nat.le_refl _,fun _ _ _=>rfl⟩ rfl
    (.inl ⟨rfl,hxs⟩)
   refine ⟨_,_,hk,OpOk.of hexec hpost (RdV.mk1 ⟨?_,⟨.nil,?_⟩,fun L hL => ?_⟩ rfl)⟩
   ·rw[a0y cc.hr hN hlt,EnvM.next_top];exact Nat.le_refl _
   ·rw[a0y cc.hr hN hlt,EnvM.next_m]
   ·rw[a0y cc.hr hN hlt,EnvM.next_m] at hL;injection hL with hL;subst hL;rw[hn0];exact ⟨_,rfl⟩
  have hpost:=OpPost.new (T:=et) (cs:=us) (W0:=W) (ns:=if shares e=true then lent else []) (L := .arr W.heap.size (width e) xs.length n) (B := .arr e xs false) cc.hr cc.hF hN hlt ⟨rfl,rfl,rfl,Nat.le_refl _,fun _ _ _=>rfl⟩ rfl (fun _ h=>h)
   (by
    refine .inr ⟨W.heap.size,n,rfl,⟨_,⟨(et,(0,0)),.inl rfl⟩,j0h W _,by rw[u2.1,u3],by omega,?_,u2.2.1,fun i hi => ?_⟩,fun _ hf => ?_,fun e=>by cases e⟩
    ·have:n≤n*width e:=Nat.le_mul_of_pos_right _ hwpos;exact ⟨by simp only[maxLen];omega,hnpos⟩
    ·have:=(Rd.lent (x2 i hi)).later hl1;refine Rd.congr e (fun q hq => ?_) this;simp
    ·have:=a0g.lt cc.hr cc.hF hf;omega)
  refine ⟨_,_,hk,OpOk.of hexec hpost (RdV.mk1 ⟨?_,⟨.arr W.heap.size (width e) xs.length n,?_⟩,fun L hL => ?_⟩ rfl)⟩
  ·rw[a0y cc.hr hN hlt,EnvM.next_top];exact Nat.le_refl _
  ·rw[a0y cc.hr hN hlt,EnvM.next_m]
  ·rw[a0y cc.hr hN hlt,EnvM.next_m] at hL;injection hL with hL;subst hL;show _=Value.slice (some ⟨W.heap.size,0,none⟩) xs.length n;rw[hxn]
 ·-- closed
  have hgrow:Grow W (a0g F h E (if shares e=true then lent else [])) (W.alloc (.cells us et)) (fun b=>a0g F h E (if shares e=true then lent else []) b∨b=W.heap.size) :=
   ⟨⟨rfl,rfl,rfl,by simp,fun b hb=>f0p W _ b hb⟩,fun _ hb => .inl hb,fun b hb=>Or.elim hb .inl fun e => .inr (by subst e;simp)⟩
  refine ⟨_,_,hk,OpOk.of hexec (OpPost.grow cc.hr cc.hF hgrow) (RdV.mk1 ⟨rfl,rfl,.inr ⟨W.heap.size,0,n,by simp[hxn],.inr rfl,by omega,fun i hi => ?_⟩⟩ rfl)⟩;have:=((Rd.lent (x2 i hi)).later hl1).later (Later.same fun b hb=>Or.inl (b:=b=W.heap.size) hb);refine Rd.congr e (fun q hq => ?_) this;simp only[mem,Nat.zero_add];rw[cell_of_row _ W.heap.size _ us et (0,0) (j0h W _)];simp
theorem f1c {o:Oper} {k:V→Ups→Option R} {r:R} {s d et:TypeId} {x:Operand} {b:List UInt8} {nm:Nat} (cc:Ctx cx call W F E N h ρ a) (hK:KOk N h k) (ho:o.op = .convert s d x)
  (hs:cx.shp s = .str) (hd:cx.shp d = .slice et) (he:cx.shp et = .int .u8) (hx:ρ x = .v false [.val .str b]) (hlen:b.length≤140737488355328)
  (hk:k (.v false [.lall nm (a0h h nm+1)]) [(nm,a0h h nm+1,some (.arr (.int .u8) (b.map fun c=>(c.toNat:Int)) false))]=some r):a0r cx W F E N h a o k r:=by
 have hv:=cc.ρ x;rw[hx] at hv;have hrun:=Go.Lib.run_convert_string_bytes (P:=cx.P) W s d et ⟨b.toArray⟩ (k0n cc.tab hs) (c0l cc.tab hd) (s0h cc.tab he);have hsz:(⟨b.toArray⟩:ByteArray).size=b.length:=size_mk b;obtain ⟨hN,hlt⟩:=hK _ _ _ hk nm (by simp[a0e]);rw[a0y cc.hr hN hlt] at hk;have hge:=grownCap_ge W b.length 0 et;have hmax:grownCap W b.length 0 et≤maxLen:=grownCap_le_maxLen W b.length 0 et (by simp only[maxLen];omega);have hnew:=Go.Lib.bytesWorld_at_new W et ⟨b.toArray⟩
 have hcs:(Go.Lib.bytesCells W et ⟨b.toArray⟩).size=grownCap W b.length 0 et:=by simp[Go.Lib.bytesCells,hsz];omega
 have hws:(Go.Lib.bytesWorld W et ⟨b.toArray⟩).heap.size=W.heap.size+1:=Go.Lib.bytesWorld_size W et ⟨b.toArray⟩;have hgr:W.grownBy (Go.Lib.bytesWorld W et ⟨b.toArray⟩) none:=⟨rfl,rfl,rfl,by rw[hws];omega,fun k hk _=>Go.Lib.bytesWorld_at_old W et _ k hk⟩;have hexec:(execOp a.eval o).run cx.P W = .ok (.value (.slice (some ⟨W.heap.size,0,none⟩) b.length (grownCap W b.length 0 et))) (Go.Lib.bytesWorld W et ⟨b.toArray⟩):=by
  rw[hsz] at hrun;simp[execOp,ho,n0p hv,hrun]
 have hl:(b.map fun c=>(c.toNat:Int)).length=b.length:=by simp
 have fin:∀L:Loc,c0w (.lall nm (E.top nm+1)) L (.slice (some ⟨W.heap.size,0,none⟩) b.length (grownCap W b.length 0 et)) →
   f0e cx.P (Go.Lib.bytesWorld W et ⟨b.toArray⟩) (a0g F h E []) (E.next nm (some L)) L (.arr (.int .u8) (b.map fun c=>(c.toNat:Int)) false)→(∀x,L.has x→x=W.heap.size)→a0r cx W F E N h a o k r:=by
  intro L hL hB hhas;have hpost:=OpPost.turn (ver':=E.top nm+1) (B := .arr (.int .u8) (b.map fun c=>(c.toNat:Int)) false) (ns:=[]) (row:=none) (W':=Go.Lib.bytesWorld W et ⟨b.toArray⟩) (F':=a0g F h E []) (E':=E.next nm (some L)) cc.hr cc.hF hN hlt (EnvM.next_le _ _ _) (EnvM.next_top _ _ _) (fun m hm=>EnvM.next_other _ _ _ m hm) hgr
   (fun _ hb=>by cases hb) (fun _ hb=>hb) (fun _ hb => .inl hb) ⟨L,EnvM.next_m _ _ _,hB,fun x hx => .inr (by rw[hhas x hx,hws];omega)⟩
  refine ⟨_,_,hk,OpOk.of hexec hpost (RdV.mk1 ⟨?_,⟨L,?_⟩,fun L' hL' => ?_⟩ rfl)⟩
  ·rw[EnvM.next_top];exact Nat.le_refl _
  ·rw[EnvM.next_m]
  ·rw[EnvM.next_m] at hL';injection hL' with hL';subst hL';exact hL
 by_cases hc:grownCap W b.length 0 et=0
 ·have hb0:b=[]:=List.eq_nil_of_length_eq_zero (by omega);refine fin .nil ?_ (.inl ⟨rfl,by rw[hb0];rfl⟩) (fun x hx=>by cases hx);rw[hc,hb0];exact ⟨_,rfl⟩
 ·refine fin (.arr W.heap.size (width (.int .u8)) (b.map fun c=>(c.toNat:Int)).length (grownCap W b.length 0 et)) ?_ ?_ (fun x hx=>hx)
  ·rw[hl];rfl
  ·refine .inr ⟨W.heap.size,_,rfl,⟨Go.Lib.bytesCells W et ⟨b.toArray⟩,⟨(et,((Go.Lib.bytesCells W et ⟨b.toArray⟩).size,(Go.Lib.bytesCells W et ⟨b.toArray⟩).size+1)),.inr (Nat.le_refl _)⟩,hnew,by rw[hcs];simp[width],by rw[hl];exact hge,⟨hmax,by omega⟩,fun v hv => ?_,fun i hi => ?_⟩,fun _ hf => ?_,fun e=>by cases e⟩
   ·simp only[Go.Lib.bytesCells,Array.toList_append,List.mem_append,Array.toList_map,List.mem_map,Array.toList_replicate,List.mem_replicate] at hv;rcases hv with ⟨c,_,rfl⟩ | ⟨_,rfl⟩<;>rfl
   ·have hi':i<b.length:=by rw[hl] at hi;exact hi
    have e1:(Go.Lib.bytesCells W et ⟨b.toArray⟩)[i]? = some (Value.int .u8 (b[i].toNat:Int)):=by
     unfold Go.Lib.bytesCells;rw[Array.getElem?_append_left (by simpa using hi')];simp[hi']
    show (Go.Lib.bytesCells W et ⟨b.toArray⟩)[i*1+0]? = some (Value.int .u8 ((b.map fun c=>(c.toNat:Int))[i]));rw[Nat.mul_one,Nat.add_zero,e1];simp
   ·have:=a0g.lt cc.hr cc.hF hf;omega
theorem b1w {n:Nat} {ns:List Nat}:∀b,a0g F h E ns b→a0g F h E (n::ns) b:=fun b hb=>Or.elim hb .inl fun ⟨m,hm,k⟩ => .inr ⟨m,List.mem_cons_of_mem _ hm,k⟩
theorem i1j {lf:(t:Ty)→Cell→Option (El t×List Nat)} (hlf:∀(t:Ty) (c:Cell) (x:El t) (ns:List Nat),lf t c=some (x,ns)→∀v:Value,b0q cx.P W F E c v→width t=1∧agg t=false∧Rd cx.P t x W (a0g F h E ns) (fun j=>if j=0 then some v else none)) :
  ∀(t:Ty) (cs:List Cell) (x:El t) (rest:List Cell) (ns:List Nat),l0h lf t cs=some (x,rest,ns)→∀vs:List Value,a0d cx.P W F E cs vs →
   Rd cx.P t x W (a0g F h E ns) (fun j=>vs[j]?)∧a0d cx.P W F E rest (vs.drop (width t))∧width t≤vs.length:=by
 have leafCase:∀(t:Ty) (c:Cell) (cs:List Cell) (x:El t) (rest:List Cell) (ns:List Nat),
   (lf t c).map (fun x=>(x.1,cs,x.2))=some (x,rest,ns)→∀vs:List Value,a0d cx.P W F E (c::cs) vs →
   Rd cx.P t x W (a0g F h E ns) (fun j=>vs[j]?)∧a0d cx.P W F E rest (vs.drop (width t))∧width t≤vs.length:=by
  intro t c cs x rest ns hp vs hv;obtain ⟨v,r,rfl,h1,h2,h3⟩:=hv.uncons;cases hl:lf t c with
  | none=>rw[hl] at hp;cases hp
  | some y =>
   rw[hl] at hp;simp only[Option.map_some,Option.some.injEq,Prod.mk.injEq] at hp;obtain ⟨rfl,rfl,rfl⟩:=hp;obtain ⟨k1,k2,k3⟩:=hlf t c y.1 y.2 hl v h1;refine ⟨Rd.congr t ?_ k3,by rw[k1];exact h3,by rw[k1];simp⟩;intro j hj;have:j=0:=by omega
   subst this;simp
 intro t;induction t with
 | unit =>
  intro cs x rest ns hp vs hv;simp only[l0h] at hp;injection hp with hp;injection hp with _ hp;injection hp with h1 h2;subst h1;exact ⟨trivial,hv,Nat.zero_le _⟩
 | pair a b iha ihb =>
  intro cs x rest ns hp vs hv;simp only[l0h] at hp;cases h1:l0h lf a cs with
  | none=>rw[h1] at hp;cases hp
  | some y =>
   rw[h1] at hp;simp only[Option.bind_some] at hp;cases h2:l0h lf b y.2.1 with
   | none=>rw[h2] at hp;cases hp
   | some z =>
    rw[h2] at hp;simp only[Option.map_some,Option.some.injEq,Prod.mk.injEq] at hp;obtain ⟨rfl,rfl,rfl⟩:=hp;obtain ⟨k1,k2,k3⟩:=iha cs y.1 y.2.1 y.2.2 h1 vs hv;obtain ⟨m1,m2,m3⟩:=ihb y.2.1 z.1 z.2.1 z.2.2 h2 _ k2;refine ⟨⟨k1.later (Later.same a0g.left),?_⟩,?_,?_⟩
    ·refine Rd.congr b ?_ (m1.later (Later.same a0g.right));intro j _;simp
    ·simpa [width] using m2
    ·simp[width] at m3 ⊢;omega
 | wrap e ih =>
  intro cs x rest ns hp vs hv;exact ih cs x rest ns (by simpa only [l0h] using hp) vs hv
 | _ =>
  intro cs x rest ns hp vs hv;cases cs with
  | nil=>simp[l0h] at hp
  | cons c cs =>
   simp only[l0h] at hp;exact leafCase _ c cs x rest ns hp vs hv
theorem leafN_rd (hc:CallSound cx call W F) (hr:HR cx.P W F E N h):∀(d:Nat) (t:Ty) (c:Cell) (x:El t) (ns:List Nat),leafN cx call h d t c=some (x,ns)→∀v:Value,b0q cx.P W F E c v →
  width t=1∧agg t=false∧Rd cx.P t x W (a0g F h E ns) (fun j=>if j=0 then some v else none):=by
 intro d;induction d with
 | zero=>intro t c x ns hp v hv;exact r0u hc hr hp hv
 | succ d ih =>
 intro t c x ns hp v hv
 replace hp:leafS cx call h (leafN cx call h d) t c=some (x,ns):=hp
 unfold leafS at hp;split at hp
 ·rename_i e n ver off;split at hp
  case h_2=>cases hp
  rename_i ver' bt cs fr hn;split at hp
  case isFalse=>cases hp
  rename_i hver;obtain ⟨rfl,rfl⟩:=hver;obtain ⟨y,hy,hxy⟩:=Option.bind_eq_some_iff.1 hp;split at hxy
  case h_2=>cases hxy
  injection hxy with hxy;injection hxy with h1 h2;subst h1;subst h2;obtain ⟨b,arr,T,k1,k2,k3,_⟩:=o0f hr hn;have hptr:v = .pointer (some ⟨b,0,none⟩):=hv.2.2 _ k1;obtain ⟨m1,m2,m3⟩:=i1j (fun t c x ns hp v hv=>ih t c x ns hp v hv) e cs y.1 y.2.1 y.2.2 hy _ k3;refine ⟨rfl,rfl,b,0,by simp[hptr],.inr ⟨n,by simp,ver,_,_,hn,k1,rfl⟩,?_⟩;refine Rd.congr e (fun q hq => ?_) (m1.later (Later.same b1w));simp only[mem,Nat.zero_add];rw[cell_of_row W b _ arr T (0,0) k2];simp
 ·exact r0u hc hr hp hv
theorem j1g (hc:CallSound cx call W F) (hr:HR cx.P W F E N h) {t:Ty} {c:Cell} {x:El t} {ns:List Nat} (hp:leaf cx call h t c=some (x,ns)) {v:Value} (hv:b0q cx.P W F E c v) :
  width t=1∧agg t=false∧Rd cx.P t x W (a0g F h E ns) (fun j=>if j=0 then some v else none):=leafN_rd hc hr 3 t c x ns hp v hv
theorem capsK_rd (hc:CallSound cx call W F) (hr:HR cx.P W F E N h) (hρ:∀x,RdV cx.P W F E (ρ x) (a.eval x)):∀(ops:List Operand) (t:Ty) (x:El t) (lent:List Nat),c1m cx call h (ops.map ρ)=some ⟨t,x,lent⟩ →
  d0k cx.P t x W (a0g F h E lent) (ops.map a.eval):=by
 intro ops;induction ops with
 | nil =>
  intro t x lent hk;simp only[List.map_nil,c1m,Option.some.injEq] at hk;injection hk with h1 h2;subst h1;rfl
 | cons p ops ih =>
  intro t x lent hk;simp only[List.map_cons] at hk ⊢;have hp:=hρ p;unfold c1m at hk;split at hk
  ·rename_i hq;cases hq
  ·rename_i c r hq;injection hq with hq hr';subst hr';rw[hq] at hp;obtain ⟨hcell,hone⟩:=hp.single;split at hk
   ·rename_i n ver off;split at hk
    case h_2=>cases hk
    rename_i ver' bt cs fr hn;split at hk
    case isFalse=>cases hk
    simp only[Option.bind_eq_some_iff,Option.map_eq_some_iff] at hk;obtain ⟨y,hy,z,hz,hyz⟩:=hk;obtain ⟨tz,vz,lz⟩:=z;cases hyz;obtain ⟨k1,k2,k3⟩:=j1g hc hr hy hcell;refine ⟨a.eval p,_,rfl,⟨(fun e=>nomatch e),(fun _=>hone),by rw[oneCell_cells hone];rfl⟩,?_,(ih tz vz lz hz).later (Later.same a0g.right)⟩;refine Rd.congr (.ptr bt) (fun q hq => ?_) (k3.later (Later.same a0g.left));simp only[width] at hq;have:q=0:=by omega
    subst this;simp[one,oneCell_cells hone]
   ·rename_i tt v off;split at hk
    case isFalse=>cases hk
    rename_i hoff;subst hoff;simp only[Option.map_eq_some_iff] at hk;obtain ⟨z,hz,hyz⟩:=hk;obtain ⟨tz,vz,lz⟩:=z;cases hyz;obtain ⟨b,o,hb,hF,hrd⟩:=hcell;refine ⟨a.eval p,_,rfl,⟨(fun e=>nomatch e),(fun _=>hone),by rw[oneCell_cells hone];rfl⟩,⟨b,o,by rw[one,oneCell_cells hone,hb];rfl,.inl hF,hrd.later (a0z _)⟩,ih tz vz lz hz⟩
   ·cases hk
  ·cases hk
theorem b1g {o:Oper} {k:V→Ups→Option R} {r:R} {f:FuncId} {first caps:Array Operand} {t:Ty} {x:El t} {lent:List Nat} (cc:Ctx cx call W F E N h ρ a)
  (ho:o.op = .makeFunc (.func f) first caps) (h0:Nat.beq first.size 0=true) (hc:c1m cx call h (caps.toList.map ρ)=some ⟨t,x,lent⟩) (hk:k (.v false [.clo f t x]) (a0i h lent)=some r) :
  a0r cx W F E N h a o k r:=by
 have e0:first = #[]:=Array.eq_empty_of_size_eq_zero (Nat.eq_of_beq_eq_true h0)
 subst e0;have hrd:=capsK_rd cc.hc cc.hr cc.ρ caps.toList t x lent hc;refine ⟨_,_,hk,OpOk.of (v := .func (.func f) #[] (caps.map a.eval)) (by simp[execOp,ho,Instr.makeFunc]) (OpPost.grow cc.hr cc.hF (Grow.refl W _)) (RdV.mk1 ⟨_,rfl,?_⟩ rfl)⟩
 simpa using hrd
theorem i1d {n:Nat} {c:Ty} {cs:List Cell} {kd:IntKind} {l:List Int} (h:rowOf n c cs=some (kd,l)):c = .int kd∧l.length=n∧cs.length=n∧∀(j:Nat) y,l[j]? = some y→cs[j]? = some (.val (.int kd) y):=by
 unfold rowOf at h;split at h
 ·rename_i kd';cases hb:Nat.ble 4 n with
  | false=>rw[hb] at h;cases h
  | true =>
   rw[hb] at h;simp only[cond_true] at h;split at h
   ·rename_i l' hl;cases hn:Nat.beq l'.length n with
    | false=>rw[hn] at h;cases h
    | true =>
     rw[hn] at h;simp only[cond_true,Option.some.injEq,Prod.mk.injEq] at h;obtain ⟨rfl,rfl⟩:=h;have hn:=Nat.eq_of_beq_eq_true hn;obtain ⟨q1,q2⟩:=z0q hl;exact ⟨rfl,hn,by omega,q2⟩
   ·cases h
 ·cases h
theorem i1q {o:Oper} {k:V→Ups→Option R} {r:R} {t et:TypeId} {n:Nat} {x:Operand} {lo hi mx:Option Operand} (cc:Ctx cx call W F E N h ρ a) (ho:o.op = .slice t x lo hi mx)
  (hs:cx.shp t = .arr n et) (hk:sliceB cx h n et (ρ x) (lo.map ρ) (hi.map ρ) (mx.map ρ) (fun c u=>k (.v false [c]) u)=some r):a0r cx W F E N h a o k r:=by
 have hu:=p0p cc.tab hs;have hv:=cc.ρ x;unfold sliceB at hk;split at hk
 case h_2=>cases hk
 rename_i m ver off c hmx hx hty;have hm:mx=none:=by cases mx<;>simp_all
 subst hm;rw[hx] at hv;split at hk
 case h_2=>cases hk
 rename_i ver' bt cs fr hn;split at hk
 case isFalse=>cases hk
 rename_i hver;obtain ⟨hver,hoff⟩:=hver;subst hver;subst hoff;split at hk
 case h_2=>cases hk
 rename_i kd l hrow;obtain ⟨hc,hl,hcl,hat⟩:=i1d hrow;subst hc;obtain ⟨i,j,h1,h2,h3,h4⟩:=g0g hk (optρ cc).1 (optρ cc).2 (optρ cc).1 (optρ cc).2;obtain ⟨g1,g2,g3⟩:=hv.single.1;obtain ⟨b,arr,T,q1,q2,q3,q4⟩:=o0f cc.hr hn;have hp:a.eval x = .pointer (some ⟨b,0,none⟩):=g3 _ q1;obtain ⟨⟨ti,t1,t2,_⟩,_⟩:=k0k cc.tab hty;have t2:ti.size=1:=t2;have hb:=h4 false n (Nat.le_refl n);have hrun:(Instr.sliceAt t (a.eval x) (lo.map a.eval) (hi.map a.eval) none).run cx.P W = .ok (.slice (some (if n=i then ⟨b,0,none⟩ else ⟨b,i,none⟩)) (j-i) (n-i)) W:=by
  rw[hp];simp[Instr.sliceAt,run_underlying hu,Instr.sureAddr,hb,sizeOf,typeInfo,t1,t2,addr_add]
 have e2:(if n=i then ⟨b,0,none⟩ else ⟨b,i,none⟩:Addr)=⟨b,if n=i then 0 else i,none⟩:=by split<;>rfl
 rw[e2] at hrun;have hlen:((l.take j).drop i).length=j-i:=by simp;omega
 refine ⟨_,_,h3,OpOk.of (v := .slice (some ⟨b,if n=i then 0 else i,none⟩) (j-i) (n-i)) (by simp[execOp,ho,hrun]) (OpPost.grow cc.hr cc.hF (Grow.refl W _)) (RdV.mk1 ⟨rfl,rfl,.inr ⟨b,if n=i then 0 else i,n-i,?_,?_,?_,fun p hp => ?_⟩⟩ rfl)⟩
 ·rw[hlen];rfl
 ·exact .inr ⟨m,by simp,ver,_,_,hn,q1,rfl⟩
 ·rw[hlen];omega
 ·have hp':p<j-i:=by rw[hlen] at hp;exact hp
  have hne:n≠i:=by omega
  have hget:((l.take j).drop i)[p]=l[i+p]'(by omega):=by simp
  have hli:l[i+p]? = some ((l.take j).drop i)[p]:=by rw[hget];exact List.getElem?_eq_getElem (by omega)
  have hce:=hat (i+p) _ hli;show mem W b ((if n=i then 0 else i)+p*width (.int kd)) 0=some (.int kd _);rw[if_neg hne];simp only[mem,width,Nat.mul_one,Nat.add_zero];rw[cell_of_row W b _ arr T (0,0) q2];have hlt:i+p<arr.size:=by
   have h0:cs.length=arr.toList.length:=q3.1;have h1:arr.toList.length=arr.size:=Array.length_toList;omega
  obtain ⟨z1,z2⟩:=q3.2 (i+p) _ (arr[i+p]) hce (by simp[hlt]);have:arr[i+p]? = some arr[i+p]:=Array.getElem?_eq_getElem hlt;rw[this];have z1:(if (0:Nat)=0 then some arr[i+p] else none)=some (Value.int kd _):=z1.2.2;exact z1
end
end Go.Flat
end
section
namespace Go.Flat
open Go.RowKit (Below)
section
variable {cx:Cx} {call:Oracle cx} {fx:Hints} {W W':World} {F F':Fz} {E E':EnvM} {h:Heap} {N:Nat→Prop} {ρ:Operand→V} {a:Act} {R:Type}
theorem a1w {P:Program} {e:Ty} {xs:List (El e)} {b off:Nat} (hx:∀i (h:i<xs.length),Rd P e xs[i] W F (mem W b (off+i*width e))) :
  ∃us:List Value,us.length=xs.length*width e∧(∀u∈us,u.oneCell'=true)∧(∀j u,us[j]? = some u→W.cell? ⟨b,off+j,none⟩=some u) ∧
   ∀i (h:i<xs.length),Rd P e xs[i] W F (fun j=>us[i*width e+j]?):=by
 have hcell:∀j,j<xs.length*width e→∃u,W.cell? ⟨b,off+j,none⟩=some u∧u.oneCell'=true:=by
  intro j hj;have hw:0<width e:=by
   rcases Nat.eq_zero_or_pos (width e) with q | q
   ·rw[q] at hj;simp at hj
   ·exact q
  have hi:j / width e<xs.length:=by rw[Nat.div_lt_iff_lt_mul hw];exact hj
  have hq:j % width e<width e:=Nat.mod_lt _ hw;obtain ⟨vs,m1,m2,m3⟩:=h0x (E:=⟨fun _ _=>none,fun _=>0⟩) e _ _ (hx _ hi);have h1:=m2 _ hq;have hlt:j % width e<vs.length:=by omega
  rw[List.getElem?_eq_getElem hlt] at h1;refine ⟨_,?_,a0d.one_all m3 _ (List.getElem_mem hlt)⟩;rw[←h1];show _=W.cell? _;congr 2;have:=Nat.div_add_mod j (width e);rw[Nat.mul_comm] at this;omega
 refine ⟨(List.range (xs.length*width e)).map fun j=>(W.cell? ⟨b,off+j,none⟩).getD .nilFunc,by simp,fun u hu => ?_,fun j u hj => ?_,fun i hi => ?_⟩
 ·simp only[List.mem_map,List.mem_range] at hu;obtain ⟨j,hj,rfl⟩:=hu;obtain ⟨u,h1,h2⟩:=hcell j hj;rw[h1];exact h2
 ·rw[List.getElem?_map] at hj;cases hr:(List.range (xs.length*width e))[j]? with
  | none=>rw[hr] at hj;cases hj
  | some q =>
   rw[hr] at hj;have hlt:j<xs.length*width e:=by
    rcases Nat.lt_or_ge j (xs.length*width e) with z | z
    ·exact z
    ·rw[List.getElem?_eq_none (by simpa using z)] at hr;cases hr
   rw[List.getElem?_range hlt] at hr;injection hr with hr;subst hr;obtain ⟨u',h1,h2⟩:=hcell j hlt;simp[h1] at hj;rw[h1,hj]
 ·refine Rd.congr e (fun q hq => ?_) (hx i hi);have hlt:=q0r (w:=width e) hi hq;obtain ⟨u,h1,_⟩:=hcell _ hlt;rw[List.getElem?_map,List.getElem?_range hlt];simp only[Option.map_some,h1,Option.getD_some,mem];rw[Nat.add_assoc,h1]
structure RowRd (P:Program) (W:World) (F:Fz) (e:Ty) (xs:List (El e)) (v:Value):Prop where
 row:(xs=[]∧∃p c,v = .slice p 0 c)∨∃b off cap,v = .slice (some ⟨b,off,none⟩) xs.length cap∧∀i (h:i<xs.length),Rd P e xs[i] W F (mem W b (off+i*width e))
theorem c1p {P:Program} {e:Ty} {xs:List (El e)} {b cap:Nat} (h:h0g P W F b cap e xs):∀i (hi:i<xs.length),Rd P e xs[i] W F (mem W b (0+i*width e)):=by
 obtain ⟨cs,T,q1,q2,q3,q4,q5,q6⟩:=h;intro i hi;refine Rd.congr e (fun q hq => ?_) (q6 i hi);simp only[mem,Nat.zero_add];rw[cell_of_row W b _ cs T.1.1 T.1.2 q1]
theorem l1c {e:Ty} {c:Cell} {k:List (El e)→Option R} {r:R} {v:Value} (hr:HR cx.P W F E N h) (hk:arrK cx call h e c k=some r) (hv:b0q cx.P W F E c v) :
  ∃xs,k xs=some r∧RowRd cx.P W F e xs v:=by
 unfold arrK at hk;split at hk
 case h_2=>cases hk
 rename_i xs ns hl;refine ⟨xs,hk,?_⟩;cases c with
 | lall n ver =>
  simp only[g0x] at hl;split at hl
  case h_2=>cases hl
  rename_i ver' e' xs' fr hn;split at hl
  case isFalse=>cases hl
  rename_i hver;subst hver;simp only[Option.map_eq_some_iff] at hl;obtain ⟨ys,hy,hyz⟩:=hl;injection hyz with h1 h2;subst h1;obtain ⟨he,hxs⟩:=a0v hy;injection he with he;subst he;simp only at hxs;subst hxs;obtain ⟨g1,g2,g3⟩:=hv;rcases c0p hr hn with ⟨q1,rfl⟩ | ⟨b,cap,q1,q2,_⟩
  ·obtain ⟨p,hp⟩:c0w (.lall n ver) .nil v:=g3 _ q1;exact ⟨.inl ⟨rfl,p,0,hp⟩⟩
  ·have hp:v = .slice (some ⟨b,0,none⟩) ys.length cap:=g3 _ q1;exact ⟨.inr ⟨b,0,cap,hp,c1p q2⟩⟩
 | lsl n ver off len =>
  simp only[g0x] at hl;split at hl
  case h_2=>cases hl
  rename_i ver' e' xs' fr hn;split at hl
  case isFalse=>cases hl
  rename_i hver;subst hver;simp only[Option.map_eq_some_iff] at hl;obtain ⟨ys,hy,hyz⟩:=hl;injection hyz with h1 h2;subst h1;obtain ⟨he,hxs⟩:=a0v hy;injection he with he;subst he;simp only at hxs;subst hxs;obtain ⟨g1,g2,g3⟩:=hv;rcases c0p hr hn with ⟨q1,rfl⟩ | ⟨b,cap,q1,q2,_⟩
  ·obtain ⟨⟨p,hp⟩,hl0,ho0⟩:c0w (.lsl n ver off len) .nil v:=g3 _ q1;exact ⟨.inl ⟨by simp,p,0,by rw[hp]⟩⟩
  ·obtain ⟨hle,p,c,hp,hlc,hoc,hoe⟩:c0w (.lsl n ver off len) (.arr b (width e') xs'.length cap) v:=g3 _ q1;have hlen:((xs'.drop off).take len).length=len:=by simp;omega
   refine ⟨.inr ⟨b,p,c,by rw[hlen];exact hp,fun i hi => ?_⟩⟩;rw[hlen] at hi;obtain ⟨k1,k2⟩:=hoc (by omega);have:=c1p q2 (off+i) (by omega);have e1:((xs'.drop off).take len)[i]=xs'[off+i]'(by omega):=by simp
   rw[e1,k1];rw[Nat.zero_add,Nat.add_mul] at this;exact this
 | ns =>
  simp only[g0x,Option.some.injEq,Prod.mk.injEq] at hl;obtain ⟨rfl,_⟩:=hl;obtain ⟨p,hp⟩:=hv;exact ⟨.inl ⟨rfl,p,0,hp⟩⟩
 | val t x =>
  simp only[g0x,Option.map_eq_some_iff] at hl;obtain ⟨ys,hy,hyz⟩:=hl;injection hyz with h1 h2;subst h1;obtain ⟨he,hxs⟩:=a0v hy;subst he;simp only at hxs;subst hxs;rcases hv.2.2 with ⟨q0,p,q1⟩ | ⟨b,off,cap,q1,q2,q3,q4⟩
  ·exact ⟨.inl ⟨q0,p,0,by simpa using q1⟩⟩
  ·exact ⟨.inr ⟨b,off,cap,by simpa using q1,q4⟩⟩
 | pin t x off=>simp only[g0x] at hl;cases hl
 | loc n ver off=>simp only[g0x] at hl;cases hl
 | lel n ver i off=>simp only[g0x] at hl;cases hl
 | sl n ver=>simp only[g0x] at hl;cases hl
 | sel n ver i=>simp only[g0x] at hl;cases hl
 | clob f l=>simp only[g0x] at hl;cases hl
 | nm=>simp only[g0x] at hl;cases hl
 | lrow n ver=>simp only[g0x] at hl;cases hl
 | clo f t x=>simp only[g0x] at hl;cases hl
 | np=>simp only[g0x] at hl;cases hl
 | nf=>simp only[g0x] at hl;cases hl
 | anyB=>simp only[g0x] at hl;cases hl
 | dead=>simp only[g0x] at hl;cases hl
end
end Go.Flat
end
section
namespace Go.Flat
open Go.RowKit (Below)
section
variable {P:Program} {W W':World}
structure Src (P:Program) (W:World) (size:Nat) (x:Value) (m:Nat) (news:List Value):Prop where
 len:Builtin.lenOf x=pure m
 cells:∀w':World,(∀a,w'.cell? a=W.cell? a)→(Builtin.firstCells size m x).run P w' = .ok news.toArray w'
 size:news.length=m*size
 one:∀u∈news,u.oneCell'=true
def u0c (P:Program) (ts:Array TypeId):Prop:=∀u,ts[1]? = some u→(∃e,P.underlying u=some (.slice e))∨P.underlying u=some .string
theorem e0w {ts:Array TypeId} {t ty e:TypeId} {i:TypeInfo} {x:Value} {m n cap:Nat} {news:List Value} {b:Option Addr}
  (ht0:ts[0]? = some t) (ht1:u0c P ts) (ht:P.underlying t=some (.slice e)) (hi:P.info? e=some i) (hx:Src P W i.size x m news) (hfit:n+m≤cap)
  (hst:∀ad,b=some ad→(storeCells (ad.add (n*i.size)) news).run P W = .ok () W') (hb:b=none→W'=W) :
  (Builtin.append_ ts ty #[.slice b n cap,x]).run P W = .ok (.slice b (n+m) cap) W':=by
 have hc:=hx.cells W (fun _=>rfl);cases hu:ts[1]? with
 | none =>
  cases b with
  | none=>simp[Builtin.append_,ht0,hu,run_underlying ht,sizeOf,typeInfo,hi,hx.len,hfit,hc,hb rfl]
  | some ad=>simp[Builtin.append_,ht0,hu,run_underlying ht,sizeOf,typeInfo,hi,hx.len,hfit,hc,hst ad rfl]
 | some u =>
  rcases ht1 u hu with ⟨e',hd⟩ | hd
  ·cases b with
   | none=>simp[Builtin.append_,ht0,hu,run_underlying ht,run_underlying hd,sizeOf,typeInfo,hi,hx.len,hfit,hc,hb rfl]
   | some ad=>simp[Builtin.append_,ht0,hu,run_underlying ht,run_underlying hd,sizeOf,typeInfo,hi,hx.len,hfit,hc,hst ad rfl]
  ·cases b with
   | none=>simp[Builtin.append_,ht0,hu,run_underlying ht,run_underlying hd,sizeOf,typeInfo,hi,hx.len,hfit,hc,hb rfl]
   | some ad=>simp[Builtin.append_,ht0,hu,run_underlying ht,run_underlying hd,sizeOf,typeInfo,hi,hx.len,hfit,hc,hst ad rfl]
def c0u (W:World) (z:Array Value) (olds news:List Value) (need old:Nat) (e:TypeId):Array Value :=
 olds.toArray++news.toArray++Builtin.zeroCells z (grownCap W need old e-need)
theorem k0o {ts:Array TypeId} {t ty e:TypeId} {i:TypeInfo} {z:Value} {x:Value} {m n cap:Nat} {olds news:List Value} {b:Option Addr}
  (ht0:ts[0]? = some t) (ht1:u0c P ts) (ht:P.underlying t=some (.slice e)) (hi:P.info? e=some i) (hz:i.zero=some z) (hx:Src P W i.size x m news) (hg:cap<n+m)
  (hbyt:0<i.bytes) (hbytes:(n+m)*i.bytes≤140737488355328)
  (hold:∀w':World,(∀a,w'.cell? a=W.cell? a)→(Builtin.firstCells i.size n (.slice b n cap)).run P w' = .ok olds.toArray w') :
  (Builtin.append_ ts ty #[.slice b n cap,x]).run P W =
   .ok (.slice (some ⟨W.heap.size,0,none⟩) (n+m) (grownCap W (n+m) cap e)) (W.drew.alloc (.cells (c0u W z.cells olds news (n+m) cap e) e)):=by
 have hn:¬(n+m≤cap):=by omega
 have hc:=hx.cells W.drew (fun _=>rfl);have ho:=hold W.drew (fun _=>rfl);have h1:n+m≤(n+m)*i.bytes:=Nat.le_mul_of_pos_right _ hbyt;have h63:¬(9223372036854775807<((n:Int)+(m:Int))):=by omega
 have hb0:i.bytes≠0:=by omega
 have h48:¬(281474976710656<Builtin.nextslicecap (n+m) cap*i.bytes):=by
  have:=growslice_fits hg hbytes;omega
 have hkey:(olds++news).toArray=olds.toArray++news.toArray:=by simp
 cases hu:ts[1]? with
 | none =>
  simp[Builtin.append_,ht0,hu,run_underlying ht,sizeOf,typeInfo,zeroValue,hi,hz,hx.len,hn,h63,hb0,h48,hc,ho,Question.forced,newRow,grownCap,c0u];rw[hkey,Array.append_assoc]
 | some u =>
  rcases ht1 u hu with ⟨e',hd⟩ | hd
  ·simp[Builtin.append_,ht0,hu,run_underlying ht,run_underlying hd,sizeOf,typeInfo,zeroValue,hi,hz,hx.len,hn,h63,hb0,h48,hc,ho,Question.forced,newRow,grownCap,c0u];rw[hkey,Array.append_assoc]
  ·simp[Builtin.append_,ht0,hu,run_underlying ht,run_underlying hd,sizeOf,typeInfo,zeroValue,hi,hz,hx.len,hn,h63,hb0,h48,hc,ho,Question.forced,newRow,grownCap,c0u];rw[hkey,Array.append_assoc]
end
end Go.Flat
end
section
namespace Go.Flat
open Go.RowKit (Below)
section
variable {cx:Cx} {call:Oracle cx} {fx:Hints} {W W':World} {F F':Fz} {E E':EnvM} {h:Heap} {N:Nat→Prop} {ρ:Operand→V} {a:Act} {R:Type}
theorem RowRd.src {P:Program} {e:Ty} {xs:List (El e)} {v:Value} (hx:RowRd P W F e xs v) :
  ∃news,Src P W (width e) v xs.length news∧∀i (h:i<xs.length),Rd P e xs[i] W F (fun j=>news[i*width e+j]?):=by
 rcases hx.row with ⟨rfl,p,c,rfl⟩ | ⟨b,off,cap,rfl,hr⟩
 ·refine ⟨[],⟨rfl,fun w' _ => ?_,by simp,by simp⟩,fun i hi=>by simp at hi⟩;cases p with
  | none=>simp[Builtin.firstCells]
  | some p=>simp[Builtin.firstCells,loadCells,loadCellsFrom]
 ·obtain ⟨us,h1,h2,h3,h4⟩:=a1w hr;refine ⟨us,⟨rfl,fun w' hw => ?_,h1,h2⟩,h4⟩;exact run_firstCells_some w' (width e) xs.length ⟨b,off,none⟩ xs.length cap us h1 fun j u hu=>by
   rw[hw,addr_add];exact h3 j u hu
theorem h1p {P:Program} (s:List UInt8):Src P W 1 (.string ⟨s.toArray⟩) s.length (s.map fun c=>Value.int .u8 (c.toNat:Int)):=by
 have hsz:(⟨s.toArray⟩:ByteArray).size=s.length:=size_mk s;refine ⟨by simp[Builtin.lenOf,hsz],fun w' _ => ?_,by simp,fun u hu => ?_⟩
 ·simp only[Builtin.firstCells,extract_mk];simp
 ·simp only[List.mem_map] at hu;obtain ⟨c,_,rfl⟩:=hu;rfl
theorem h0g.put {P:Program} {b cap:Nat} {e:Ty} {xs ys zs:List (El e)} {cs:Array Value} {T:RowT cs.size} {news:List Value} {p:Nat} (hF:¬F b) (hg:W.heap[b]? = some (.cells cs T.1.1 T.1.2)) (hsz:cs.size=cap*width e)
  (hcm:cap≤maxLen∧0<cap) (h1:∀v∈cs.toList,v.oneCell'=true) (hx:∀i (h:i<xs.length),Rd P e xs[i] W F (fun j=>cs[i*width e+j]?))
  (hn:news.length=ys.length*width e) (hn1:∀u∈news,u.oneCell'=true) (hy:∀i (h:i<ys.length),Rd P e ys[i] W F (fun j=>news[i*width e+j]?)) (hp:p≤xs.length) (hfit:p+ys.length≤cap)
  (hzl:zs.length≤cap) (hz:∀i (h:i<zs.length),(i<p∧∃h':i<xs.length,zs[i]=xs[i])∨(p≤i∧∃h':i-p<ys.length,zs[i]=ys[i-p])∨(p+ys.length≤i∧∃h':i<xs.length,zs[i]=xs[i])) :
  h0g P (W.setRow b (b0j cs (p*width e) news)) F b cap e zs:=by
 have hle:p*width e+news.length≤cs.size:=by rw[hn,hsz,←Nat.add_mul];exact Nat.mul_le_mul_right _ hfit
 have hl:Later W F (W.setRow b (b0j cs (p*width e) news)) F:=⟨rfl,rfl,rfl,by simp,fun k hk=>setRow_other W b k _ (fun e=>hF (e ▸ hk)),fun _ hb=>hb⟩;refine ⟨_,⟨T.1,by rw[size_put hle];exact T.2⟩,setRow_heap W b cs _ T.1.1 _ hg,by rw[size_put hle];exact hsz,hzl,hcm,p0y h1 hn1,fun i hi => ?_⟩;rcases hz i hi with ⟨k1,k2,k3⟩ | ⟨k1,k2,k3⟩ | ⟨k1,k2,k3⟩
 ·rw[k3];refine Rd.congr e (fun q hq => ?_) ((hx i k2).later hl);rw[get_put hle,if_pos (q0r k1 hq)]
 ·rw[k3];refine Rd.congr e (fun q hq => ?_) ((hy _ k2).later hl);have e1:i=p+(i-p):=by omega
  have e2:i*width e=p*width e+(i-p)*width e:=by rw[←Nat.add_mul];congr 1
  have:=q0r (w:=width e) k2 hq;rw[get_put hle,if_neg (by omega),if_pos (by omega)];congr 1;omega
 ·rw[k3];refine Rd.congr e (fun q hq => ?_) ((hx i k2).later hl);have:(p+ys.length)*width e≤i*width e:=Nat.mul_le_mul_right _ k1;rw[Nat.add_mul] at this;rw[get_put hle,if_neg (by omega),if_neg (by omega)]
theorem h0g.grown {P:Program} {e:Ty} {xs ys:List (El e)} {et:TypeId} {z:Array Value} {olds news:List Value} {old:Nat} (hF:∀b,F b→b<W.heap.size)
  (ho:olds.length=xs.length*width e) (ho1:∀u∈olds,u.oneCell'=true) (hx:∀i (h:i<xs.length),Rd P e xs[i] W F (fun j=>olds[i*width e+j]?))
  (hn:news.length=ys.length*width e) (hn1:∀u∈news,u.oneCell'=true) (hy:∀i (h:i<ys.length),Rd P e ys[i] W F (fun j=>news[i*width e+j]?))
  (hz:z.size=width e) (hz1:∀u∈z.toList,u.oneCell'=true) (hw:0<width e) (h63:xs.length+ys.length≤maxLen) (hpos:0<xs.length+ys.length) :
  h0g P (W.drew.alloc (.cells (c0u W z olds news (xs.length+ys.length) old et) et)) F W.heap.size (grownCap W (xs.length+ys.length) old et) e (xs++ys):=by
 have hge:=grownCap_ge W (xs.length+ys.length) old et;have hl:Later W F (W.drew.alloc (.cells (c0u W z olds news (xs.length+ys.length) old et) et)) F:=⟨rfl,rfl,rfl,by simp,fun b hb=>f0p W.drew _ b (hF b hb),fun _ hb=>hb⟩;have hzs:(Builtin.zeroCells z (grownCap W (xs.length+ys.length) old et-(xs.length+ys.length))).toList.length=(grownCap W (xs.length+ys.length) old et-(xs.length+ys.length))*width e:=by
  rw[Array.length_toList,size_zeroCells,hz]
 have hlist:(c0u W z olds news (xs.length+ys.length) old et).toList=olds++(news++(Builtin.zeroCells z (grownCap W (xs.length+ys.length) old et-(xs.length+ys.length))).toList):=by
  simp[c0u]
 refine ⟨_,⟨(et,(0,0)),.inl rfl⟩,j0h W.drew _,?_,by simpa using hge,⟨grownCap_le_maxLen W _ old et h63,by omega⟩,fun u hu => ?_,fun i hi => ?_⟩
 ·rw[←Array.length_toList,hlist,List.length_append,List.length_append,ho,hn,hzs,←Nat.add_assoc,←Nat.add_mul,←Nat.add_mul];congr 1;omega
 ·rw[hlist] at hu;simp only[List.mem_append] at hu;rcases hu with hu | hu | hu
  ·exact ho1 u hu
  ·exact hn1 u hu
  ·exact n0e (n:=(grownCap W (xs.length+ys.length) old et-(xs.length+ys.length))*z.size) hz1 (by omega) u hu
 ·have hget:∀q:Nat,(c0u W z olds news (xs.length+ys.length) old et)[q]? = (olds++(news++(Builtin.zeroCells z (grownCap W (xs.length+ys.length) old et-(xs.length+ys.length))).toList))[q]? := by
   intro q;rw[←hlist,Array.getElem?_toList]
  by_cases hi1:i<xs.length
  ·have:(xs++ys)[i]=xs[i]:=List.getElem_append_left hi1;rw[this];refine Rd.congr e (fun q hq => ?_) ((hx i hi1).later hl);have:=q0r (w:=width e) hi1 hq;rw[hget,List.getElem?_append,if_pos (by omega)]
  ·have hi2:i-xs.length<ys.length:=by simp at hi;omega
   have:(xs++ys)[i]=ys[i-xs.length]:=List.getElem_append_right (by omega);rw[this];refine Rd.congr e (fun q hq => ?_) ((hy _ hi2).later hl);have e2:i*width e=xs.length*width e+(i-xs.length)*width e:=by rw[←Nat.add_mul];congr 1;omega
   have:=q0r (w:=width e) hi2 hq;rw[hget,List.getElem?_append,if_neg (by omega),List.getElem?_append,if_pos (by omega)];congr 1;omega
end
end Go.Flat
end
section
namespace Go.Flat
open Go.RowKit (Below)
section
variable {cx:Cx} {call:Oracle cx} {fx:Hints} {W W':World} {F F':Fz} {E E':EnvM} {h:Heap} {N:Nat→Prop} {ρ:Operand→V} {a:Act} {R:Type}
theorem x0x {et:TypeId} {e:Ty} (ht:e0d cx) (he:cx.ty et=some e) :
  ∃ti z,cx.P.info? et=some ti∧ti.size=width e∧ti.bytes=cx.bytes et∧ti.zero=some z∧z.cells.size=width e∧(∀u∈z.cells.toList,u.oneCell'=true) ∧
   (∀W F E,a0d cx.P W F E (zeroCells e) z.cells.toList):=by
 obtain ⟨ti,t1,t2,z,t3,t4,t5⟩:=(k0k ht he).ti;have hbytes:ti.bytes=cx.bytes et:=by
  unfold Cx.bytes;cases hi:cx.info et with
  | none=>simp[Cx.ty,hi] at he
  | some i =>
   obtain ⟨tj,j1,_,j2,_⟩:=(ht et i hi).info;rw[t1] at j1;injection j1 with j1;subst j1;exact j2
 have hzc:∀W F E,a0d cx.P W F E (zeroCells e) z.cells.toList:=fun _ _ _=>e0r t4
 have h0:=hzc ⟨#[],fun _ _=>0,0,default,#[]⟩ (fun _=>False) ⟨fun _ _=>none,fun _=>0⟩;refine ⟨ti,z,t1,t2,hbytes,t3,?_,a0d.one_all h0,hzc⟩;have:=h0.1;rw[d0l] at this
 simpa using this.symm
theorem v0q {ts:Array TypeId} (ht:e0d cx) (hz:m0z cx ts=true):u0c cx.P ts:=by
 intro u hu;unfold m0z at hz;rw[hu] at hz;simp only[Option.map_some] at hz;cases hs:cx.shp u with
 | slice e=>exact .inl ⟨e,c0l ht hs⟩
 | str=>exact .inr (k0n ht hs)
 | _=>rw[hs] at hz;cases hz
inductive AppTo (cx:Cx) (W:World) (F:Fz) (E:EnvM) (h:Heap) (n:Nat) (e:Ty):List (El e)→Value→Prop where
 | nil (p:Option Addr):AppTo cx W F E h n e [] (.slice p 0 0)
 | row {ver:Nat} {xs:List (El e)} {b cap m:Nat} (hn:h[n]? = some (ver,some (.arr e xs false))) (hL:E.m n ver=some (.arr b (width e) xs.length cap)) (hA:h0g cx.P W F b cap e xs) (hfree:¬F b) (hm:m≤xs.length) :
   AppTo cx W F E h n e (xs.take m) (.slice (some ⟨b,0,none⟩) m cap)
theorem j0q {o:Oper} {cl:Go.Call} {k:V→Ups→Option R} {r:R} {s x:Operand} {t et:TypeId} {e:Ty} {xs ys:List (El e)} {news:List Value} {n:Nat}
  (cc:Ctx cx call W F E N h ρ a) (hK:KOk N h k) (ho:o.op = .call cl) (hc:cl.callee = .builtin .append) (hargs:cl.args = #[s,x]) (ht:cl.argTypes[0]? = some t) (hs:cx.shp t = .slice et)
  (hnz:m0z cx cl.argTypes=true) (he:cx.ty et=some e) (hw:(e0f cx et e&&Nat.blt 0 (cx.bytes et))=true) (hto:AppTo cx W F E h n e xs (a.eval s))
  (hx:Src cx.P W (width e) (a.eval x) ys.length news) (hy:∀i (h:i<ys.length),Rd cx.P e ys[i] W F (fun j=>news[i*width e+j]?))
  (hb:(xs.length+ys.length)*cx.bytes et≤140737488355328)
  (hk:k (.v false [.lall n (a0h h n+1)]) [(n,a0h h n+1,some (.arr e (xs++ys) false))]=some r):a0r cx W F E N h a o k r:=by
 simp only[Bool.and_eq_true] at hw;have hwpos:=s0k hw.1;have hb0:0<cx.bytes et:=by simpa [Nat.blt_eq] using hw.2
 obtain ⟨hN,hlt⟩:=hK _ _ _ hk n (by simp[a0e]);obtain ⟨ti,z,t1,t2,t3,t4,t5,t6,_⟩:=x0x cc.tab he;have hnz:=v0q cc.tab hnz;have hu:=c0l cc.tab hs;have hlen:xs.length+ys.length≤maxLen:=by
  have:xs.length+ys.length≤(xs.length+ys.length)*cx.bytes et:=Nat.le_mul_of_pos_right _ hb0;simp only[maxLen];omega
 have hsrc:Src cx.P W ti.size (a.eval x) ys.length news:=by rw[t2];exact hx
 rw[a0y cc.hr hN hlt] at hk;have fin:∀ {v':Value} {W':World} {L':Loc} {row:Option Nat},(Builtin.append_ cl.argTypes o.type #[a.eval s,a.eval x]).run cx.P W = .ok v' W'→W.grownBy W' row →
   (∀b,row=some b→atName h E n b∧¬F b)→f0e cx.P W' F (E.next n (some L')) L' (.arr e (xs++ys) false) →
   (∀x,L'.has x→row=some x∨(W.heap.size≤x∧x<W'.heap.size))→c0w (.lall n (E.top n+1)) L' v'→v'.oneCell'=true→a0r cx W F E N h a o k r:=by
  intro v' W' L' row hrun hg hrow hB hL hv h1;have hpost:=OpPost.turn (ns:=[]) (F':=F) cc.hr cc.hF hN hlt (EnvM.next_le E n (some L')) (EnvM.next_top E n (some L')) (fun m hm=>EnvM.next_other E n _ m hm) hg
   (by rw[a0j];exact hrow) (by rw[a0j];exact fun _ hb=>hb) (by rw[a0j];exact fun _ hb => .inl hb) ⟨L',EnvM.next_m E n (some L'),hB,hL⟩
  refine ⟨_,_,hk,OpOk.of (v:=v') ?_ hpost (RdV.mk1 ⟨?_,⟨L',?_⟩,fun L hL => ?_⟩ h1)⟩
  ·simp[execOp,ho,resolve,hc,hargs,invoke,builtin,hrun]
  ·rw[EnvM.next_top];exact Nat.le_refl _
  ·rw[EnvM.next_m]
  ·rw[EnvM.next_m] at hL;injection hL with hL;subst hL;exact hv
 have grow:∀ {b:Option Addr} {cap:Nat} {olds:List Value},a.eval s = .slice b xs.length cap→cap<xs.length+ys.length →
   (∀w':World,(∀a,w'.cell? a=W.cell? a)→(Builtin.firstCells ti.size xs.length (.slice b xs.length cap)).run cx.P w' = .ok olds.toArray w') →
   olds.length=xs.length*width e→(∀u∈olds,u.oneCell'=true)→(∀i (h:i<xs.length),Rd cx.P e xs[i] W F (fun j=>olds[i*width e+j]?))→a0r cx W F E N h a o k r:=by
  intro b cap olds hs hcap hold h1 h2 h3;have hrun:=k0o (ty:=o.type) ht hnz hu t1 t4 hsrc hcap (by rw[t3];exact hb0) (by rw[t3];exact hb) hold;rw[←hs] at hrun;have hA:=h0g.grown (et:=et) (z:=z.cells) (old:=cap) cc.hF h1 h2 h3 hx.size hx.one hy t5 t6 hwpos hlen (by omega);refine fin (L' := .arr W.heap.size (width e) (xs++ys).length (grownCap W (xs.length+ys.length) cap et)) (row:=none) hrun ⟨rfl,rfl,rfl,by simp,fun k hk _=>f0p W.drew _ k hk⟩ (fun _ hb=>by cases hb)
   (.inr ⟨_,_,rfl,hA,fun _ hf => ?_,fun e=>by cases e⟩) (fun x hx => ?_) ?_ rfl
  ·have:=cc.hF _ hf;omega
  ·have hx:x=W.heap.size:=hx;subst hx;exact .inr (by simp)
  ·show _=Value.slice _ (xs++ys).length _;rw[List.length_append]
 generalize hv:a.eval s=v at hto;cases hto with
 | nil p =>
  rcases Nat.eq_zero_or_pos ys.length with hy0 | hy0
  ·have hyn:ys=[]:=List.eq_nil_of_length_eq_zero hy0;have hn0:news=[]:=List.eq_nil_of_length_eq_zero (by rw[hx.size,hy0];simp);have hrun:=e0w (P:=cx.P) (W:=W) (W':=W) (ty:=o.type) (n:=0) (cap:=0) (b:=p) ht hnz hu t1 hsrc (by omega) (fun ad _=>by rw[hn0];simp[storeCells]) (fun _=>rfl);rw[←hv,hy0] at hrun;exact fin (L' := .nil) (row:=none) hrun ⟨rfl,rfl,rfl,Nat.le_refl _,fun _ _ _=>rfl⟩ (fun _ hb=>by cases hb) (.inl ⟨rfl,by simp[hyn]⟩) (fun _ hx=>by cases hx) ⟨p,rfl⟩ rfl
  ·refine grow (b:=p) (cap:=0) (olds:=[]) hv (by simpa using hy0) (fun w' _ => ?_) (by simp) (by simp) (fun i hi=>by simp at hi);cases p with
   | none=>simp[Builtin.firstCells]
   | some p=>simp[Builtin.firstCells,loadCells,loadCellsFrom]
 | @row ver xs b cap m hn hL hA hfree hm =>
  have hat:atName h E n b:=⟨ver,_,_,hn,hL,rfl⟩;have htl:(xs.take m).length=m:=by rw[List.length_take];omega
  obtain ⟨cs,T,q1,q2,q3,q4,q5,q6⟩:=hA;by_cases hfit:m+ys.length≤cap
  ·have hle:m*width e+news.length≤cs.size:=by rw[hx.size,q2,←Nat.add_mul];exact Nat.mul_le_mul_right _ hfit
   have hst:=d0r (P:=cx.P) b (m*width e) T.1.1 news 0 cs W T.2 q1 (by simpa using hle) hx.one;simp only[Nat.add_zero] at hst;have hrun:=e0w (P:=cx.P) (W:=W) (W':=W.setRow b (b0j cs (m*width e) news)) (ty:=o.type) (b:=some ⟨b,0,none⟩) ht hnz hu t1 hsrc hfit
    (fun ad hd=>by injection hd with hd;subst hd;rw[addr_add,t2,Nat.zero_add];exact hst) (fun e=>by cases e)
   rw[←hv] at hrun;have hput:=h0g.put (zs:=xs.take m++ys) (p:=m) hfree q1 q2 q4 q5 q6 hx.size hx.one hy hm hfit (by rw[List.length_append,htl];exact hfit) (fun i hi=>by
    rw[List.length_append,htl] at hi;by_cases hi1:i<m
    ·exact .inl ⟨hi1,by omega,by rw[List.getElem_append_left (by rw[htl];exact hi1)];simp⟩
    ·exact .inr (.inl ⟨by omega,by omega,by rw[List.getElem_append_right (by rw[htl];omega)];simp[htl]⟩))
   refine fin (L' := .arr b (width e) (xs.take m++ys).length cap) (row:=some b) hrun ⟨rfl,rfl,rfl,by simp,fun k _ hk=>setRow_other W b k _ (fun e=>hk (by rw[e]))⟩
    (fun x hx=>by injection hx with hx;subst hx;exact ⟨hat,hfree⟩) (.inr ⟨b,cap,rfl,hput,fun _=>hfree,fun e=>by cases e⟩) (fun x hx => .inl (by rw[show x=b from hx])) ?_ rfl
   show _=Value.slice _ (xs.take m++ys).length _;rw[List.length_append,htl]
  ·have hrd:∀i (hi:i<(xs.take m).length),Rd cx.P e (xs.take m)[i] W F (mem W b (0+i*width e)):=by
    intro i hi;rw[htl] at hi;have:=c1p (P:=cx.P) (W:=W) (F:=F) (b:=b) (cap:=cap) (e:=e) (xs:=xs) ⟨cs,T,q1,q2,q3,q4,q5,q6⟩ i (by omega)
    simpa using this
   obtain ⟨olds,o1,o2,o3,o4⟩:=a1w hrd;refine grow (b:=some ⟨b,0,none⟩) (cap:=cap) (olds:=olds) (by rw[htl];exact hv) (by rw[htl];omega) (fun w' hw' => ?_) o1 o2 o4;refine run_firstCells_some w' ti.size _ ⟨b,0,none⟩ _ cap olds (by rw[t2];exact o1) (fun j u hu => ?_);rw[hw',addr_add];exact o3 j u hu
end
end Go.Flat
end
section
namespace Go.Flat
open Go.RowKit (Below)
section
variable {cx:Cx} {call:Oracle cx} {fx:Hints} {W W':World} {F F':Fz} {E E':EnvM} {h:Heap} {N:Nat→Prop} {ρ:Operand→V} {a:Act} {R:Type}
theorem b1m {e:Ty} {x:V} {kk:List (El e)→Option R} {r:R} {v:Value} (hr:HR cx.P W F E N h)
  (hk:(match x with
   | .v false [.val .str b]=>match b0p (a := .slice (.int .u8)) (b := .slice e) (b.map fun c=>(c.toNat:Int)) with | some y=>kk y | none=>none
   | .v false [c]=>arrK cx call h e c kk
   | _=>none)=some r) (hv:RdV cx.P W F E x v) :
  ∃ys news,kk ys=some r∧Src cx.P W (width e) v ys.length news∧∀i (h:i<ys.length),Rd cx.P e ys[i] W F (fun j=>news[i*width e+j]?):=by
 revert hv;split at hk
 ·rename_i b;intro hv;split at hk
  case h_2=>cases hk
  rename_i y hy;obtain ⟨he,hys⟩:=a0v hy;injection he with he;subst he;simp only at hys;subst hys;have:=n0p hv;subst this;refine ⟨_,_,hk,by have:=h1p (P:=cx.P) (W:=W) b;simpa [width] using this,fun i hi => ?_⟩;simp only[Rd,RdP,width,Nat.mul_one,Nat.add_zero];simp at hi;simp[hi]
 ·intro hv;obtain ⟨ys,h1,h2⟩:=l1c hr hk hv.single.1;obtain ⟨news,h3,h4⟩:=h2.src;exact ⟨ys,news,h1,h3,h4⟩
 ·cases hk
theorem g0h {n ver:Nat} {b:Option Blk} (hn:h[n]? = some (ver,b)):a0h h n=ver:=by
 unfold a0h;rw[hn]
theorem i1u {o:Oper} {cl:Go.Call} {k:V→Ups→Option R} {r:R} {p q:Operand} {t et:TypeId} {e:Ty}
  (cc:Ctx cx call W F E N h ρ a) (hK:KOk N h k) (ho:o.op = .call cl) (hc:cl.callee = .builtin .append) (hargs:cl.args = #[p,q]) (ht:cl.argTypes[0]? = some t) (hs:cx.shp t = .slice et)
  (hnz:m0z cx cl.argTypes=true) (he:cx.ty et=some e) (hw:(e0f cx et e&&Nat.blt 0 (cx.bytes et))=true)
  (hk:q0m cx call fx h o e (cx.bytes et) (ρ p) (ρ q) (fun c u=>k (.v false [c]) u)=some r):a0r cx W F E N h a o k r:=by
 have hv:=cc.ρ p;unfold q0m at hk;simp only at hk;split at hk
 case h_4=>cases hk
 ·rename_i hp;rw[hp] at hv;obtain ⟨ad,hv⟩:=hv.single.1;obtain ⟨ys,news,h1,h2,h3⟩:=b1m cc.hr hk (cc.ρ q);obtain ⟨h4,h5⟩:=a0l h1;refine j0q (xs:=[]) (n:=nmOf fx o) cc hK ho hc hargs ht hs hnz he hw (by rw[hv];exact .nil ad) h2 h3 (by simpa using h4) (by simpa using h5)
 ·rename_i n ver hp;rw[hp] at hv;split at hk
  case h_2=>cases hk
  rename_i ver' e' xs hn;split at hk
  case isFalse=>cases hk
  rename_i hver;subst hver;split at hk
  case h_2=>cases hk
  rename_i zs hz;obtain ⟨he',hzs⟩:=a0v hz;injection he' with he';subst he';simp only at hzs;subst hzs;obtain ⟨ys,news,h1,h2,h3⟩:=b1m cc.hr hk (cc.ρ q);obtain ⟨h4,h5⟩:=a0l h1;obtain ⟨g1,g2,g3⟩:=hv.single.1;rw[←g0h hn] at h5;refine j0q (xs:=zs) (n:=n) cc hK ho hc hargs ht hs hnz he hw ?_ h2 h3 (by simpa using h4) h5;rcases c0p cc.hr hn with ⟨q1,rfl⟩ | ⟨b,cap,q1,q2,q3,_⟩
  ·obtain ⟨ad,hv⟩:c0w (.lall n ver) .nil (a.eval p):=g3 _ q1;rw[hv];exact .nil ad
  ·have hv:a.eval p = .slice (some ⟨b,0,none⟩) zs.length cap:=g3 _ q1;rw[hv];have:=AppTo.row (cx:=cx) (W:=W) (m:=zs.length) hn q1 q2 (q3 rfl) (Nat.le_refl _)
   rwa [List.take_length] at this
 ·rename_i n ver off len hp;rw[hp] at hv;split at hk
  case h_2=>cases hk
  rename_i ver' e' xs hn;split at hk
  case isFalse=>cases hk
  rename_i hver;obtain ⟨hver,hoff⟩:=hver;subst hver;subst hoff;split at hk
  case h_2=>cases hk
  rename_i zs hz;obtain ⟨he',hzs⟩:=a0v hz;injection he' with he';subst he';simp only at hzs;subst hzs;obtain ⟨ys,news,h1,h2,h3⟩:=b1m cc.hr hk (cc.ρ q);obtain ⟨h4,h5⟩:=a0l h1;obtain ⟨g1,g2,g3⟩:=hv.single.1;rw[←g0h hn] at h5;refine j0q (xs:=xs.take len) (n:=n) cc hK ho hc hargs ht hs hnz he hw ?_ h2 h3 (by simpa using h4) h5;rcases c0p cc.hr hn with ⟨q1,rfl⟩ | ⟨b,cap,q1,q2,q3,_⟩
  ·obtain ⟨⟨ad,hv⟩,hl0,_⟩:c0w (.lsl n ver 0 len) .nil (a.eval p):=g3 _ q1;rw[hv,List.take_nil];exact .nil ad
  ·obtain ⟨hle,o',c,hv,hlc,hoc,hoe⟩:c0w (.lsl n ver 0 len) (.arr b (width e') xs.length cap) (a.eval p):=g3 _ q1;rw[hv];rcases Nat.eq_zero_or_pos c with rfl | hpos
   ·have:len=0:=by omega
    subst this;rw[List.take_zero];exact .nil _
   ·obtain ⟨k1,k2⟩:=hoc hpos;have e1:o'=0:=by simpa using k1
    have e2:c=cap:=by omega
    subst e1;subst e2;exact AppTo.row (cx:=cx) (W:=W) (m:=len) hn q1 q2 (q3 rfl) (by omega)
end
end Go.Flat
end
section
namespace Go.Flat
open Go.RowKit (Below)
section
variable {cx:Cx} {call:Oracle cx} {fx:Hints} {W W':World} {F F':Fz} {E E':EnvM} {h:Heap} {N:Nat→Prop} {ρ:Operand→V} {a:Act} {R:Type}
structure Place (cx:Cx) (W:World) (F:Fz) (E:EnvM) (h:Heap) (n ver off len:Nat) (e:Ty) (xs:List (El e)) (v:Value):Prop where
 at_:h[n]? = some (ver,some (.arr e xs false))
 le:off+len≤xs.length
 row:(E.m n ver=some .nil∧xs=[]∧∃p,v = .slice p 0 0) ∨
  ∃b cap o c,E.m n ver=some (.arr b (width e) xs.length cap)∧h0g cx.P W F b cap e xs∧¬F b∧v = .slice (some ⟨b,o,none⟩) len c∧(0<len→o=off*width e)
theorem y0u {c:Cell} {k:(n ver off len:Nat)→(e:Ty)→List (El e)→Option R} {r:R} {v:Value} (hr:HR cx.P W F E N h) (hk:o0t h c k=some r) (hv:b0q cx.P W F E c v) :
  ∃n ver off len e xs,k n ver off len e xs=some r∧Place cx W F E h n ver off len e xs v:=by
 unfold o0t at hk;split at hk
 case h_3=>cases hk
 ·rename_i n ver;split at hk
  case h_2=>cases hk
  rename_i ver' e xs hn;split at hk
  case isFalse=>cases hk
  rename_i hver;subst hver;obtain ⟨g1,g2,g3⟩:=hv;refine ⟨n,ver,0,xs.length,e,xs,hk,hn,by omega,?_⟩;rcases c0p hr hn with ⟨q1,rfl⟩ | ⟨b,cap,q1,q2,q3,_⟩
  ·obtain ⟨p,hp⟩:c0w (.lall n ver) .nil v:=g3 _ q1;exact .inl ⟨q1,rfl,p,hp⟩
  ·have hp:v = .slice (some ⟨b,0,none⟩) xs.length cap:=g3 _ q1;exact .inr ⟨b,cap,0,cap,q1,q2,q3 rfl,hp,fun _=>by simp⟩
 ·rename_i n ver off len;split at hk
  case h_2=>cases hk
  rename_i ver' e xs hn;split at hk
  case isFalse=>cases hk
  rename_i hver;subst hver;obtain ⟨h1,hk⟩:=a0l hk;obtain ⟨g1,g2,g3⟩:=hv;refine ⟨n,ver,off,len,e,xs,hk,hn,by simpa using h1,?_⟩;rcases c0p hr hn with ⟨q1,rfl⟩ | ⟨b,cap,q1,q2,q3,_⟩
  ·obtain ⟨⟨p,hp⟩,h2,_⟩:c0w (.lsl n ver off len) .nil v:=g3 _ q1;exact .inl ⟨q1,rfl,p,by rw[hp]⟩
  ·obtain ⟨hle,o,c,hp,hlc,hoc,hoe⟩:c0w (.lsl n ver off len) (.arr b (width e) xs.length cap) v:=g3 _ q1;exact .inr ⟨b,cap,o,c,q1,q2,q3 rfl,hp,fun hl=>(hoc (by omega)).1⟩
structure SrcN (P:Program) (W:World) (size:Nat) (x:Value) (len m:Nat) (news:List Value):Prop where
 len:Builtin.lenOf x=pure len
 cells:(Builtin.firstCells size m x).run P W = .ok news.toArray W
 size:news.length=m*size
 one:∀u∈news,u.oneCell'=true
theorem RowRd.srcN {P:Program} {e:Ty} {xs:List (El e)} {v:Value} {m:Nat} (hx:RowRd P W F e xs v) (hm:m≤xs.length) :
  ∃news,SrcN P W (width e) v xs.length m news∧∀i (h:i<(xs.take m).length),Rd P e (xs.take m)[i] W F (fun j=>news[i*width e+j]?):=by
 have htl:(xs.take m).length=m:=by rw[List.length_take];omega
 rcases hx.row with ⟨rfl,p,c,rfl⟩ | ⟨b,off,cap,rfl,hr⟩
 ·have:m=0:=by simpa using hm
  subst this;refine ⟨[],⟨rfl,?_,by simp,by simp⟩,fun i hi=>by simp at hi⟩;cases p with
  | none=>simp[Builtin.firstCells]
  | some p=>simp[Builtin.firstCells,loadCells,loadCellsFrom]
 ·have hr':∀i (hi:i<(xs.take m).length),Rd P e (xs.take m)[i] W F (mem W b (off+i*width e)):=fun i hi=>by
   have:=hr i (by omega)
   simpa using this
  obtain ⟨us,h1,h2,h3,h4⟩:=a1w hr';rw[htl] at h1;refine ⟨us,⟨rfl,?_,h1,h2⟩,h4⟩;exact run_firstCells_some W (width e) m ⟨b,off,none⟩ xs.length cap us h1 fun j u hu=>by
   rw[addr_add];exact h3 j u hu
theorem str_srcN {P:Program} (s:List UInt8) (m:Nat) (hm:m≤s.length):SrcN P W 1 (.string ⟨s.toArray⟩) s.length m ((s.map fun c=>Value.int .u8 (c.toNat:Int)).take m):=by
 have hsz:(⟨s.toArray⟩:ByteArray).size=s.length:=size_mk s;refine ⟨by simp[Builtin.lenOf,hsz],?_,by simp;omega,fun u hu => ?_⟩
 ·simp only[Builtin.firstCells,extract_mk];simp[List.map_take]
 ·have:=List.mem_of_mem_take hu;simp only[List.mem_map] at this;obtain ⟨c,_,rfl⟩:=this;rfl
theorem c1x {e:Ty} {n ver off len:Nat} {xs ys:List (El e)} {news:List Value} {v:Value} (cc:Ctx cx call W F E N h ρ a) (hp:Place cx W F E h n ver off len e xs v) (hys:ys.length≤len)
  (hn:news.length=ys.length*width e) (hn1:∀u∈news,u.oneCell'=true) (hy:∀i (h:i<ys.length),Rd cx.P e ys[i] W F (fun j=>news[i*width e+j]?)) :
  ∃W',OpPost cx.P W F E N h W' F E [(n,ver,some (.arr e (putRow xs off ys) false))] ∧
   ∃p l c,v = .slice p l c∧(ys.length=0→l=0→W'=W)∧(l=len∨(l=0∧ys.length=0∧len=0))∧(∀ad,p=some ad→(storeCells ad news).run cx.P W = .ok () W')∧(p=none→W'=W):=by
 have hat:=hp.at_;have hN:=(cc.hr.blk n ver _ hat).1;have hlt:n<h.length:=by
  rcases Nat.lt_or_ge n h.length with q | q
  ·exact q
  ·rw[List.getElem?_eq_none q] at hat;cases hat
 have hle:=hp.le;rcases hp.row with ⟨q1,rfl,p,rfl⟩ | ⟨b,cap,o,c,q1,q2,q3,rfl,q5⟩
 ·have hlen0:len=0:=by simp at hle;omega
  have hy0:ys=[]:=List.eq_nil_of_length_eq_zero (by omega);subst hy0;have hn0:news=[]:=List.eq_nil_of_length_eq_zero (by rw[hn];simp);subst hn0;have hpost:=OpPost.turn (ns:=[]) (W':=W) (F':=F) (row:=none) (B := .arr e (putRow [] off []) false) cc.hr cc.hF hN hlt (EnvLe.refl E) (cc.hr.top n ver _ hN hat).symm (fun _ _=>rfl) ⟨rfl,rfl,rfl,Nat.le_refl _,fun _ _ _=>rfl⟩
   (fun _ hb=>by cases hb) (by rw[a0j];exact fun _ hb=>hb) (by rw[a0j];exact fun _ hb => .inl hb) ⟨.nil,q1,.inl ⟨rfl,by simp[putRow]⟩,fun _ hx=>by cases hx⟩
  exact ⟨W,hpost,p,0,0,rfl,fun _ _=>rfl,.inr ⟨rfl,rfl,hlen0⟩,fun ad _=>by simp[storeCells],fun _=>rfl⟩
 ·obtain ⟨cs,T,k1,k2,k3,k4,k5,k6⟩:=q2;have hlen:(putRow xs off ys).length=xs.length:=by simp[putRow];omega
  have hput:=h0g.put (zs:=putRow xs off ys) (p:=off) q3 k1 k2 k4 k5 k6 hn hn1 hy (by omega) (by omega) (by omega) (fun i hi=>by
   rw[hlen] at hi;have e1:(xs.take off).length=off:=by rw[List.length_take];omega
   by_cases hi1:i<off
   ·refine .inl ⟨hi1,hi,?_⟩;simp only[putRow,List.append_assoc];rw[List.getElem_append_left (by omega)];simp
   ·by_cases hi2:i<off+ys.length
    ·refine .inr (.inl ⟨by omega,by omega,?_⟩);simp only[putRow,List.append_assoc];rw[List.getElem_append_right (by omega),List.getElem_append_left (by omega)];simp[e1]
    ·refine .inr (.inr ⟨by omega,hi,?_⟩);simp only[putRow,List.append_assoc];rw[List.getElem_append_right (by omega),List.getElem_append_right (by omega)];simp only[List.getElem_drop,e1]
     congr 1;omega)
  have hpost:=OpPost.row (ns:=[]) (B := .arr e (putRow xs off ys) false) (cs':=b0j cs (off*width e) news) cc.hr cc.hF hat q1 rfl (fun _ h=>h) q3 (by simp)
   (by rw[a0j,←hlen];exact .inr ⟨b,cap,rfl,hput,fun _=>q3,fun e=>by cases e⟩)
  rw[a0j] at hpost;have hself:ys.length=0→W.setRow b (b0j cs (off*width e) news)=W:=fun h0=>by
   have hn0:news=[]:=List.eq_nil_of_length_eq_zero (by rw[hn,h0];simp);rw[hn0];have:b0j cs (off*width e) []=cs:=by simp[b0j]
   rw[this];exact setRow_self W b cs T.1.1 T.1.2 k1
  refine ⟨_,hpost,some ⟨b,o,none⟩,len,c,rfl,fun h0 _=>hself h0,.inl rfl,fun ad hd => ?_,fun e=>by cases e⟩;injection hd with hd;subst hd;rcases Nat.eq_zero_or_pos ys.length with h0 | h0
  ·have hn0:news=[]:=List.eq_nil_of_length_eq_zero (by rw[hn,h0];simp);rw[hself h0,hn0];simp[storeCells]
  ·have ho:=q5 (by omega);subst ho;have hle2:off*width e+news.length≤cs.size:=by rw[hn,k2,←Nat.add_mul];exact Nat.mul_le_mul_right _ (by omega)
   have:=d0r (P:=cx.P) b (off*width e) T.1.1 news 0 cs W T.2 k1 (by simpa using hle2) hn1
   simpa only [Nat.add_zero,b0j] using this
theorem d1e {α:Type} (xs:List α) (n:Nat):(xs.take n).length=Nat.min xs.length n:=by
 rw[List.length_take];exact Nat.min_comm _ _
theorem q0v {o:Oper} {cl:Go.Call} {k:V→Ups→Option R} {r:R} {p q:Operand} {t et:TypeId} {e:Ty} {n ver off len l:Nat} {xs ys:List (El e)} {news:List Value}
  (cc:Ctx cx call W F E N h ρ a) (ho:o.op = .call cl) (hc:cl.callee = .builtin .copy) (hargs:cl.args = #[p,q]) (ht:cl.argTypes[0]? = some t) (hs:cx.shp t = .slice et) (he:cx.ty et=some e)
  (hp:Place cx W F E h n ver off len e xs (a.eval p)) (hl:ys.length=Nat.min l len) (hx:SrcN cx.P W (width e) (a.eval q) l ys.length news)
  (hy:∀i (h:i<ys.length),Rd cx.P e ys[i] W F (fun j=>news[i*width e+j]?))
  (hk:k (.v false [.val (.int .i64) (ys.length:Int)]) [(n,ver,some (.arr e (putRow xs off ys) false))]=some r):a0r cx W F E N h a o k r:=by
 obtain ⟨ti,z,t1,t2,_⟩:=x0x cc.tab he;have hu:=c0l cc.tab hs;have hle:ys.length≤len:=by rw[hl];exact Nat.min_le_right _ _
 obtain ⟨W',hpost,ad,l',c,hv,hW,hl',hst,hnone⟩:=c1x cc hp hle hx.size hx.one hy;have hmin:Nat.min l l'=ys.length:=by
  rcases hl' with rfl | ⟨rfl,h0,_⟩
  ·exact hl.symm
  ·rw[h0];exact Nat.min_zero l
 have hcells:=hx.cells;refine ⟨_,_,hk,OpOk.of (v:=goInt ys.length) ?_ hpost (e0m _ _)⟩;have hrun:(Builtin.copy_ cl.argTypes o.type #[a.eval p,a.eval q]).run cx.P W = .ok (goInt ys.length) W':=by
  rw[hv];cases ad with
  | none=>simp[Builtin.copy_,ht,run_underlying hu,hx.len,sizeOf,typeInfo,t1,t2,hmin,hcells,hnone rfl]
  | some ad=>simp[Builtin.copy_,ht,run_underlying hu,hx.len,sizeOf,typeInfo,t1,t2,hmin,hcells,hst ad rfl]
 simp[execOp,ho,resolve,hc,hargs,invoke,builtin,hrun]
theorem op_copy {o:Oper} {cl:Go.Call} {k:V→Ups→Option R} {r:R} {p q:Operand} {t et:TypeId} {e0:Ty} {d s:Cell}
  (cc:Ctx cx call W F E N h ρ a) (ho:o.op = .call cl) (hc:cl.callee = .builtin .copy) (hargs:cl.args = #[p,q]) (ht:cl.argTypes[0]? = some t) (hs:cx.shp t = .slice et) (he:cx.ty et=some e0)
  (hp:ρ p = .v false [d]) (hq:ρ q = .v false [s])
  (hk : o0t h d (fun n ver off len e xs =>
      if e=e0 then
       match s with
       | .val .str b =>
        match b0p (a := .slice (.int .u8)) (b := .slice e) ((b.map fun c=>(c.toNat:Int)).take len) with
        | some ys=>k (.v false [.val (.int .i64) (ys.length:Int)]) [(n,ver,some (.arr e (putRow xs off ys) false))]
        | none=>none
       | s=>arrK cx call h e s fun ys =>
        k (.v false [.val (.int .i64) ((ys.take len).length:Int)]) [(n,ver,some (.arr e (putRow xs off (ys.take len)) false))]
      else none)=some r):a0r cx W F E N h a o k r:=by
 have hpv:=cc.ρ p;rw[hp] at hpv;have hqv:=cc.ρ q;rw[hq] at hqv;obtain ⟨n,ver,off,len,e,xs,hk2,hpl⟩:=y0u cc.hr hk hpv.single.1;clear hk;have hk:=hk2;clear hk2;split at hk
 case isFalse=>cases hk
 rename_i he';subst he';have arr:arrK cx call h e s (fun ys=>k (.v false [.val (.int .i64) ((ys.take len).length:Int)]) [(n,ver,some (.arr e (putRow xs off (ys.take len)) false))])=some r→a0r cx W F E N h a o k r:=by
  intro hk;obtain ⟨ys,h1,h2⟩:=l1c cc.hr hk hqv.single.1;obtain ⟨news,h3,h4⟩:=h2.srcN (m:=(ys.take len).length) (by rw[List.length_take];omega);have e1:ys.take (ys.take len).length=ys.take len:=by rw[List.length_take,List.take_eq_take_iff];omega
  rw[e1] at h4;exact q0v cc ho hc hargs ht hs he hpl (d1e ys len) h3 h4 h1
 split at hk
 ·rename_i b;split at hk
  case h_2=>cases hk
  rename_i ys hy;obtain ⟨he2,hys⟩:=a0v hy;injection he2 with he2;subst he2;simp only at hys;subst hys;have hv:=n0p hqv;refine q0v (e := .int .u8) (ys:=((b.map fun c=>(c.toNat:Int)).take len:List Int)) (l:=b.length) (news:=(b.map fun c=>Value.int .u8 (c.toNat:Int)).take ((b.map fun c=>(c.toNat:Int)).take len).length) cc ho hc hargs ht hs he hpl
   (by rw[d1e];simp) ?_ (fun i hi => ?_) hk
  ·rw[hv];exact str_srcN b _ (by simp;omega)
  ·simp only[Rd,RdP,width,Nat.mul_one,Nat.add_zero];have:i<b.length∧i<len:=by simp at hi;omega
   have hlt:i<min len b.length:=by omega
   simp[hlt]
 ·exact arr hk
theorem op_clear {o:Oper} {cl:Go.Call} {k:V→Ups→Option R} {r:R} {p:Operand} {t et:TypeId} {e0:Ty} {d:Cell}
  (cc:Ctx cx call W F E N h ρ a) (ho:o.op = .call cl) (hc:cl.callee = .builtin .clear) (hargs:cl.args = #[p]) (ht:cl.argTypes[0]? = some t) (hs:cx.shp t = .slice et) (he:cx.ty et=some e0)
  (hp:ρ p = .v false [d])
  (hk : o0t h d (fun n ver off len e xs =>
        if e=e0 then
         match i0b e with
         | some z=>k (.tup []) [(n,ver,some (.arr e (putRow xs off (List.replicate len z)) false))]
         | none=>none
        else none)=some r):a0r cx W F E N h a o k r:=by
 have hpv:=cc.ρ p;rw[hp] at hpv;obtain ⟨n,ver,off,len,e,xs,hk2,hpl⟩:=y0u cc.hr hk hpv.single.1;clear hk;have hk:=hk2;clear hk2;split at hk
 case isFalse=>cases hk
 rename_i he';subst he';split at hk
 case h_2=>cases hk
 rename_i z hz;obtain ⟨ti,z',t1,t2,t3,t4,t5,t6,t7⟩:=x0x cc.tab he;have hu:=c0l cc.tab hs;have hrl:(List.replicate len z).length=len:=List.length_replicate;have hmade:Builtin.zeroCells z'.cells len=madeCells z'.cells (len*width e):=by rw[←t5];rfl
 have hpos:(∃u,u∈(madeCells z'.cells (len*width e)).toList)→0<z'.cells.size:=by
  rintro ⟨u,hu⟩;rcases Nat.eq_zero_or_pos z'.cells.size with q | q
  ·rw[←t5,q] at hu;simp[madeCells] at hu
  ·exact q
 obtain ⟨W',hpost,ad,l',c,hv,hW,hl',hst,hnone⟩:=c1x (ys:=List.replicate len z) (news:=(madeCells z'.cells (len*width e)).toList) cc hpl (by rw[hrl];exact Nat.le_refl _)
  (by rw[hrl,Array.length_toList,size_madeCells]) (fun u hu=>n0e t6 (hpos ⟨u,hu⟩) u hu)
  (fun i hi=>by
   rw[hrl] at hi;rw[List.getElem_replicate];have:=d1f (W:=W) (F:=F) t5 (r0z e z _ hz (t7 W F E)) hi
   simpa only [Array.getElem?_toList] using this)
 refine ⟨_,_,hk,OpOk.of (v := .tuple #[]) ?_ hpost ⟨[],rfl,rfl,fun j p u hp=>by simp at hp⟩⟩;have hrun:(Builtin.clear_ cl.argTypes o.type #[a.eval p]).run cx.P W = .ok (.tuple #[]) W':=by
  rw[hv];cases ad with
  | none=>simp[Builtin.clear_,ht,run_underlying hu,hnone rfl]
  | some ad =>
   rcases Nat.eq_zero_or_pos l' with rfl | hl0
   ·have h0:len=0:=by rcases hl' with h | ⟨_,_,h⟩<;>omega
    rw[hW (by rw[hrl,h0]) rfl];simp[Builtin.clear_,ht,run_underlying hu]
   ·have e1:l'=len:=by rcases hl' with h | ⟨h,_,_⟩<;>omega
    subst e1;obtain ⟨m,rfl⟩:∃m,l'=m+1:=⟨l'-1,by omega⟩;have:=hst ad rfl;rw[←hmade] at this;simp[Builtin.clear_,ht,run_underlying hu,zeroValue,typeInfo,t1,t4,this]
 simp[execOp,ho,resolve,hc,hargs,invoke,builtin,hrun]
theorem b1h {o:Oper} {cl:Go.Call} {k:V→Ups→Option R} {r:R} {p:Operand} {t:TypeId}
  (cc:Ctx cx call W F E N h ρ a) (ho:o.op = .call cl) (hc:cl.callee = .builtin .clear) (hargs:cl.args = #[p]) (ht:cl.argTypes[0]? = some t)
  (hp:ρ p = .v false [.ns]) (hund:∃d,cx.P.underlying t=some d) (hk:k (.tup []) []=some r):a0r cx W F E N h a o k r:=by
 have hpv:=cc.ρ p;rw[hp] at hpv;obtain ⟨ad,hv⟩:=hpv.single.1;obtain ⟨d,hu⟩:=hund;refine a0r.value cc hk (v := .tuple #[]) ?_ ⟨[],rfl,rfl,fun j p u hp=>by simp at hp⟩;have hrun:(Builtin.clear_ cl.argTypes o.type #[a.eval p]).run cx.P W = .ok (.tuple #[]) W:=by
  rw[hv];cases ad with
  | none=>cases d<;>simp[Builtin.clear_,ht,run_underlying hu]
  | some ad=>cases d<;>simp[Builtin.clear_,ht,run_underlying hu]
 simp[execOp,ho,resolve,hc,hargs,invoke,builtin,hrun]
end
end Go.Flat
end
section
namespace Go.Flat
open Go.RowKit (Below)
def x0l:Ty→Value→Prop
 | .bool,v=>∃b,v = .bool b
 | .int k,v=>∃n,v = .int k n
 | .str,v=>∃s:List UInt8,v = .string ⟨s.toArray⟩
 | _,_=>False
def Fits:List Ty→List Value→Prop
 | [],[]=>True
 | t::ts,v::vs=>x0l t v∧Fits ts vs
 | _,_=>False
def c1e:Value→Value→Bool
 | .bool a,.bool b=>a==b
 | .int _ a,.int _ b=>a==b
 | .string a,.string b=>a.toList==b.toList
 | _,_=>false
def e0a:List Value→List Value→Bool
 | u::us,v::vs=>c1e u v&&e0a us vs
 | _,_=>true
def mkv (c:Ty) (vs:List Value):Value:=if agg c=true then .agg vs.toArray else vs.headD .nilFunc
theorem flat_length:∀t:Ty,(flat t).length=width t:=by
 intro t;induction t with
 | pair a b iha ihb=>simp[flat,width,iha,ihb]
 | wrap e ih=>exact ih
 | _=>rfl
theorem Fits.length:∀ {ts:List Ty} {vs:List Value},Fits ts vs→vs.length=ts.length:=by
 intro ts;induction ts with
 | nil=>intro vs h;cases vs with
  | nil=>rfl
  | cons=>exact h.elim
 | cons t ts ih=>intro vs h;cases vs with
  | nil=>exact h.elim
  | cons v vs=>simp[ih h.2]
theorem Fits.split:∀ {a b:List Ty} {vs:List Value},Fits (a++b) vs→Fits a (vs.take a.length)∧Fits b (vs.drop a.length):=by
 intro a;induction a with
 | nil=>intro b vs h;exact ⟨by simp[Fits],h⟩
 | cons t ts ih=>intro b vs h;cases vs with
  | nil=>exact h.elim
  | cons v vs=>exact ⟨⟨h.1,(ih h.2).1⟩,(ih h.2).2⟩
theorem t0l:∀(n:Nat) (us vs:List Value),us.length=vs.length→e0a us vs=(e0a (us.take n) (vs.take n)&&e0a (us.drop n) (vs.drop n)):=by
 intro n;induction n with
 | zero=>intro us vs _;simp[e0a]
 | succ n ih =>
  intro us vs h;cases us with
  | nil=>cases vs with
   | nil=>simp[e0a]
   | cons=>simp at h
  | cons u us=>cases vs with
   | nil=>simp at h
   | cons v vs =>
    simp only[List.take_succ_cons,List.drop_succ_cons,e0a];rw[ih us vs (by simpa using h),Bool.and_assoc]
section
variable {P:Program} {W:World}
def EqOk (P:Program) (W:World) (d:Nat) (self:TypeId→Ty→Bool):Prop :=
 ∀t c vs us,self t c=true→Fits (flat c) vs→Fits (flat c) us→(Op.equalIn d t (mkv c vs) (mkv c us)).run P W = .ok (e0a vs us) W
theorem r0t {t:TypeId} {e:Ty} {xs:Array Value} {off:Nat} {vs:List Value} (hp:l0p P t e=true) (hle:off+width e≤xs.size) (hv:(xs.toList.drop off).take (width e)=vs) :
  (part t xs off).run P W = .ok (mkv e vs) W:=by
 unfold l0p at hp;split at hp
 case h_2=>cases hp
 rename_i ti hti;simp only[Bool.and_eq_true,beq_iff_eq,Bool.or_eq_true] at hp;obtain ⟨h1,h2,h3,h4⟩:=hp;have h1:=Nat.eq_of_beq_eq_true h1;have:=b1c (W:=W) (vs:=xs) (off:=off) (w:=width e) hti h1 (Option.isSome_iff_exists.1 h4) hle (fun e=>by
  rcases h3 with h3 | h3
  ·rw[h2,e] at h3;cases h3
  ·exact Nat.eq_of_beq_eq_true h3)
 rw[this,hv,←h2];rfl
theorem u0n {d:Nat} {self:TypeId→Ty→Bool} (ih:EqOk P W d self) (xs ys:Array Value):∀(fs:List Field) (e:Ty) (off:Nat) (vs us:List Value),
  k0b P self fs e off=true→Fits (flat e) vs→Fits (flat e) us→off+width e≤xs.size→off+width e≤ys.size →
  (xs.toList.drop off).take (width e)=vs→(ys.toList.drop off).take (width e)=us→(Op.eqFields d xs ys fs).run P W = .ok (e0a vs us) W:=by
 intro fs;induction fs with
 | nil =>
  intro e off vs us h h1 h2 _ _ _ _;cases e<;>(try (cases h));have e1:=h1.length;have e2:=h2.length;simp[flat] at e1 e2;subst e1;subst e2;simp[Op.eqFields,e0a]
 | cons f r ihf =>
  intro e off vs us h h1 h2 hx hy hxs hys
  have step : ∀ (c : Ty) (vs' us' : List Value), f.name ≠ "_" → f.offset = off → l0p P f.type c = true → self f.type c = true → Fits (flat c) vs' → Fits (flat c) us' → off + width c ≤ xs.size → off + width c ≤ ys.size →
    (xs.toList.drop off).take (width c)=vs'→(ys.toList.drop off).take (width c)=us' →
    (Op.eqFields d xs ys (f::r)).run P W=(if (!e0a vs' us')=true then pure false else Op.eqFields d xs ys r).run P W:=by
   intro c vs' us' k1 k2 k3 k4 k5 k6 k7 k8 k9 k10;have p1:=r0t (W:=W) k3 k7 k9;have p2:=r0t (W:=W) k3 k8 k10;have p3:=ih f.type c vs' us' k4 k5 k6;simp only[Op.eqFields,k1,ne_eq,not_false_eq_true,if_true,k2,Sem.run_bind,p1,p2,p3,Result.andThen_ok]
  cases r with
  | nil =>
   simp only[k0b,Bool.and_eq_true,bne_iff_ne] at h;obtain ⟨k1,k2,k3,k4⟩:=h;rw[step e vs us k1 (Nat.eq_of_beq_eq_true k2) k3 k4 h1 h2 hx hy hxs hys];cases e0a vs us<;>simp[Op.eqFields]
  | cons g r =>
   cases e with
   | pair a b =>
    simp only[k0b,Bool.and_eq_true,bne_iff_ne] at h;obtain ⟨k1,k2,k3,k4,k5⟩:=h;simp only[flat] at h1 h2;have s1:=h1.split;have s2:=h2.split;rw[flat_length] at s1 s2;simp only[width] at hx hy hxs hys;have l1:=h1.length;have l2:=h2.length;rw[step a (vs.take (width a)) (us.take (width a)) k1 (Nat.eq_of_beq_eq_true k2) k3 k4 s1.1 s2.1 (by omega) (by omega)
     (by rw[←hxs,List.take_take];congr 1;omega) (by rw[←hys,List.take_take];congr 1;omega)]
    rw[t0l (width a) vs us (by rw[l1,l2])];have:=ihf b (off+width a) (vs.drop (width a)) (us.drop (width a)) k5 s1.2 s2.2 (by omega) (by omega)
     (by rw[←hxs,List.drop_take,List.drop_drop];congr 1;omega) (by rw[←hys,List.drop_take,List.drop_drop];congr 1;omega)
    cases e0a (vs.take (width a)) (us.take (width a))<;>simp[this]
   | _=>simp[k0b] at h
theorem x0w {d:Nat} {self:TypeId→Ty→Bool} (ih:EqOk P W d self) {el:TypeId} {c:Nat} (xs ys:Array Value):∀(n:Nat) (e:Ty) (i:Nat) (vs us:List Value),
  f0i P self el n e=true→(∀ti,P.info? el=some ti→ti.size=c)→Fits (flat e) vs→Fits (flat e) us→i*c+width e≤xs.size→i*c+width e≤ys.size →
  (xs.toList.drop (i*c)).take (width e)=vs→(ys.toList.drop (i*c)).take (width e)=us→(Op.eqItems d el c xs ys (List.range' i n)).run P W = .ok (e0a vs us) W:=by
 intro n;induction n with
 | zero =>
  intro e i vs us h _ h1 h2 _ _ _ _;cases e<;>(try (cases h));have e1:=h1.length;have e2:=h2.length;simp[flat] at e1 e2;subst e1;subst e2;simp[Op.eqItems,e0a]
 | succ n ihn =>
  intro e i vs us h hc h1 h2 hx hy hxs hys;have step:∀(k:Ty) (vs' us':List Value),l0p P el k=true→self el k=true→Fits (flat k) vs'→Fits (flat k) us'→i*c+width k≤xs.size→i*c+width k≤ys.size →
    (xs.toList.drop (i*c)).take (width k)=vs'→(ys.toList.drop (i*c)).take (width k)=us' →
    (Op.eqItems d el c xs ys (List.range' i (n+1))).run P W=(if (!e0a vs' us')=true then pure false else Op.eqItems d el c xs ys (List.range' (i+1) n)).run P W:=by
   intro k vs' us' k3 k4 k5 k6 k7 k8 k9 k10;have p1:=r0t (W:=W) k3 k7 k9;have p2:=r0t (W:=W) k3 k8 k10;have p3:=ih el k vs' us' k4 k5 k6;simp only[List.range'_succ,Op.eqItems,Sem.run_bind,p1,p2,p3,Result.andThen_ok]
  cases n with
  | zero =>
   simp only[f0i,Bool.and_eq_true] at h;rw[step e vs us h.1 h.2 h1 h2 hx hy hxs hys];cases e0a vs us<;>simp[Op.eqItems]
  | succ n =>
   cases e with
   | pair a b =>
    simp only[f0i,Bool.and_eq_true] at h;obtain ⟨k3,k4,k5⟩:=h;have hw:width a=c:=by
     unfold l0p at k3;split at k3
     case h_2=>cases k3
     rename_i ti hti;simp only[Bool.and_eq_true] at k3;rw[←Nat.eq_of_beq_eq_true k3.1];exact hc ti hti
    simp only[flat] at h1 h2;have s1:=h1.split;have s2:=h2.split;rw[flat_length] at s1 s2;simp only[width] at hx hy hxs hys;have l1:=h1.length;have l2:=h2.length;have hi:(i+1)*c=i*c+width a:=by rw[hw,Nat.succ_mul]
    rw[step a (vs.take (width a)) (us.take (width a)) k3 k4 s1.1 s2.1 (by omega) (by omega)
     (by rw[←hxs,List.take_take];congr 1;omega) (by rw[←hys,List.take_take];congr 1;omega)]
    rw[t0l (width a) vs us (by rw[l1,l2])];have:=ihn b (i+1) (vs.drop (width a)) (us.drop (width a)) k5 hc s1.2 s2.2 (by omega) (by omega)
     (by rw[hi,←hxs,List.drop_take,List.drop_drop];congr 1;omega) (by rw[hi,←hys,List.drop_take,List.drop_drop];congr 1;omega)
    cases e0a (vs.take (width a)) (us.take (width a))<;>simp[this]
   | _=>simp[f0i] at h
theorem h0w (xs:List Value) (n:Nat) (h:xs.length=n):(xs.drop 0).take n=xs:=by subst h;simp
theorem g1b:∀(d:Nat),EqOk P W d (j1x P d):=by
 intro d;induction d with
 | zero=>intro t c vs us h;cases h
 | succ d ih =>
  intro t c vs us h h1 h2;unfold j1x at h;have l1:=h1.length;have l2:=h2.length;split at h
  ·rename_i hu
   match vs,us,h1,h2 with
   | [u],[v],h1,h2 =>
    obtain ⟨⟨a,rfl⟩,_⟩:=h1;obtain ⟨⟨b,rfl⟩,_⟩:=h2
    simpa [mkv,agg,e0a,c1e] using run_equalIn_bool' W d t a b hu
  ·rename_i k k' hu
   match vs,us,h1,h2 with
   | [u],[v],h1,h2 =>
    obtain ⟨⟨a,rfl⟩,_⟩:=h1;obtain ⟨⟨b,rfl⟩,_⟩:=h2
    simpa [mkv,agg,e0a,c1e] using run_equalIn_int W d t k' k a b hu
  ·rename_i hu
   match vs,us,h1,h2 with
   | [u],[v],h1,h2 =>
    obtain ⟨⟨a,rfl⟩,_⟩:=h1;obtain ⟨⟨b,rfl⟩,_⟩:=h2
    simpa [mkv,agg,e0a,c1e] using run_equalIn_string W d t ⟨a.toArray⟩ ⟨b.toArray⟩ hu
  ·rename_i fs e hu;simp only[Bool.and_eq_true,Bool.not_eq_true'] at h;have hf:P.fieldsOf t=fs:=by simp[Program.fieldsOf,hu]
   simp only[flat] at h1 h2;rw[flat_length] at l1 l2;simp only[width] at l1 l2;simp only[mkv,agg,if_true];rw[run_equalIn_struct W d t vs.toArray us.toArray (by rw[hf];exact hu) h.1,hf];exact u0n ih vs.toArray us.toArray fs.toList e 0 vs us h.2 h1 h2 (by simp[l1]) (by simp[l2]) (h0w vs _ l1) (h0w us _ l2)
  ·rename_i n el e hu;simp only[flat] at h1 h2;rw[flat_length] at l1 l2;simp only[width] at l1 l2;simp only[mkv,agg,if_true];cases hi:P.info? el with
   | none=>simp[hi] at h
   | some ti =>
    rw[run_equalIn_array W d vs.toArray us.toArray hu hi,List.range_eq_range'];have hce:P.cellsOf el=ti.size:=by simp[Program.cellsOf,hi]
    simp only[Bool.and_eq_true] at h;exact x0w ih vs.toArray us.toArray n e 0 vs us h.2 (fun tj hj=>by rw[hi] at hj;injection hj with hj;rw[hce,hj]) h1 h2 (by simp[l1]) (by simp[l2]) (by simpa using h0w vs _ l1) (by simpa using h0w us _ l2)
  ·cases h
end
section
variable {cx:Cx} {call:Oracle cx} {fx:Hints} {W W':World} {F F':Fz} {E E':EnvM} {h:Heap} {N:Nat→Prop} {ρ:Operand→V} {a:Act} {R:Type}
theorem k1c {P:Program} {t:Ty} {x y:El t} {b:Bool} {u v:Value} (he:k1d t x y=some b) (hu:b0q P W F E (.val t x) u) (hv:b0q P W F E (.val t y) v) :
  x0l t u∧x0l t v∧b=c1e u v:=by
 have hu:=hu.2.2;have hv:=hv.2.2;unfold k1d at he;split at he<;>(try (cases he))
 ·simp[Rd,RdP] at hu hv;subst hu;subst hv;exact ⟨⟨_,rfl⟩,⟨_,rfl⟩,rfl⟩
 ·simp[Rd,RdP] at hu hv;subst hu;subst hv;exact ⟨⟨_,rfl⟩,⟨_,rfl⟩,by simp[c1e,j1n]⟩
 ·simp[Rd,RdP] at hu hv;subst hu;subst hv;exact ⟨⟨_,rfl⟩,⟨_,rfl⟩,by simp[c1e,toList_mk]⟩
theorem g1c {P:Program}:∀(ls:List Ty) (xs ys:List Cell) (b:Bool) (vs us:List Value),k0w ls xs ys=some b→a0d P W F E xs vs→a0d P W F E ys us →
  Fits ls vs∧Fits ls us∧b=e0a vs us:=by
 intro ls;induction ls with
 | nil =>
  intro xs ys b vs us h h1 h2;cases xs with
  | nil=>cases ys with
   | nil =>
    have e1:=h1.1;have e2:=h2.1;have e1:=List.eq_nil_of_length_eq_zero e1.symm;have e2:=List.eq_nil_of_length_eq_zero e2.symm;subst e1;subst e2;simp[k0w] at h;subst h;exact ⟨trivial,trivial,rfl⟩
   | cons=>simp[k0w] at h
  | cons=>simp[k0w] at h
 | cons t ls ih =>
  intro xs ys b vs us h h1 h2;unfold k0w at h;split at h
  ·exact absurd ‹t::ls=[]› (by simp)
  ·rename_i t' ls' u' x r u'' y s heq;injection heq with e1 e2;subst e1;subst e2;obtain ⟨v,vs',rfl,k1,_,k3⟩:=h1.uncons;obtain ⟨w,us',rfl,m1,_,m3⟩:=h2.uncons;split at h
   case isFalse=>cases h
   rename_i hu;subst hu;split at h
   case isFalse=>cases h
   rename_i hu;subst hu;split at h
   case h_2=>cases h
   rename_i b0 hb0;obtain ⟨f1,f2,f3⟩:=k1c hb0 k1 m1;have rest:∀b',k0w ls r s=some b'→b=(b0&&b')→Fits (u''::ls) (v::vs')∧Fits (u''::ls) (w::us')∧b=e0a (v::vs') (w::us'):=by
    intro b' hb' he;obtain ⟨g1,g2,g3⟩:=ih r s b' vs' us' hb' k3 m3;exact ⟨⟨f1,g1⟩,⟨f2,g2⟩,by rw[he,f3,g3];rfl⟩
   split at h
   ·injection h with h;exact rest true (by simp[k0w]) (by simp[h])
   ·simp only[Option.map_eq_some_iff] at h;obtain ⟨b',hb',he⟩:=h;exact rest b' hb' he.symm
  ·cases h
theorem w0e {t:TypeId} (ht:e0d cx) (hne:cx.eqk t≠0):∃i,cx.info t=some i∧i.eq=cx.eqk t∧eqB cx.P t i=true:=by
 unfold Cx.eqk at hne ⊢;cases hi:cx.info t with
 | none=>rw[hi] at hne;exact absurd rfl hne
 | some i=>exact ⟨i,rfl,rfl,(ht t i hi).eq⟩
theorem eqB_ptr {P:Program} {t:TypeId} {i:TI} (he:i.eq=1) (h:eqB P t i=true):∃e,P.underlying t=some (.pointer e):=by
 unfold eqB at h;cases hu:P.underlying t with
 | none=>simp[he,hu] at h
 | some d=>cases d<;>simp_all
theorem eqB_fn {P:Program} {t:TypeId} {i:TI} (he:i.eq=2) (h:eqB P t i=true):∃x y z,P.underlying t=some (.func x y z):=by
 unfold eqB at h;cases hu:P.underlying t with
 | none=>simp[he,hu] at h
 | some d=>cases d<;>simp_all
theorem eqB_bool {P:Program} {t:TypeId} {i:TI} (he:i.eq=4) (h:eqB P t i=true):P.underlying t=some .bool:=by
 unfold eqB at h;cases hu:P.underlying t with
 | none=>simp[he,hu] at h
 | some d=>cases d<;>simp_all
theorem c1y {P:Program} {c:Cell} {v:Value} (hv:b0q P W F E c v):(c = .np→v = .pointer none)∧((∃t x o,c = .pin t x o)∨(∃n r o,c = .loc n r o)∨(∃n r i o,c = .lel n r i o)∨(∃n r,c = .lrow n r)→∃p,v = .pointer (some p)):=by
 refine ⟨fun e=>by subst e;exact hv,?_⟩;rintro (⟨t,x,o,rfl⟩ | ⟨n,r,o,rfl⟩ | ⟨n,r,i,o,rfl⟩ | ⟨n,r,rfl⟩)
 ·obtain ⟨b,q,rfl,_⟩:=hv;exact ⟨_,rfl⟩
 ·obtain ⟨_,⟨L,hL⟩,h2⟩:=hv;have:=h2 L hL;cases L<;>simp[c0w] at this;exact ⟨_,this⟩
 ·obtain ⟨_,⟨L,hL⟩,h2⟩:=hv;have:=h2 L hL;cases L<;>simp[c0w] at this;exact ⟨_,this⟩
 ·obtain ⟨_,⟨L,hL⟩,h2⟩:=hv;have:=h2 L hL;cases L<;>simp[c0w] at this;exact ⟨_,this.1⟩
theorem j1v {P:Program} {c:Cell} {v:Value} (hv:b0q P W F E c v):(c = .nf→v = .nilFunc)∧((∃f t x,c = .clo f t x)∨(∃p q x,c = .val (.fn p q) x)→∃f caps,v = .func (.func f) #[] caps):=by
 refine ⟨fun e=>by subst e;exact hv,?_⟩;rintro (⟨f,t,x,rfl⟩ | ⟨p,q,x,rfl⟩)
 ·obtain ⟨caps,rfl,_⟩:=hv;exact ⟨_,_,rfl⟩
 ·obtain ⟨_,_,f,caps,h1,_⟩:=hv;simp at h1;exact ⟨f,caps,h1⟩
theorem j1y {P:Program} {c d:Cell} {b:Bool} {u v:Value} {t e:TypeId} {n:Nat} (hb:j1z c d=some b) (hu:b0q P W F E c u) (hv:b0q P W F E d v) (ht:P.underlying t=some (.pointer e)) :
  (Op.equalIn (n+1) t u v).run P W = .ok b W∧(∃p,u = .pointer p)∧∃q,v = .pointer q:=by
 have pu:=c1y hu;have pv:=c1y hv;unfold j1z at hb;split at hb<;>(try (cases hb))
 ·cases pu.1 rfl;cases pv.1 rfl;exact ⟨by simp[Op.equalIn,run_underlying ht],⟨_,rfl⟩,⟨_,rfl⟩⟩
 ·cases pu.1 rfl;obtain ⟨p,rfl⟩:=pv.2 (.inl ⟨_,_,_,rfl⟩);exact ⟨by simp[Op.equalIn,run_underlying ht],⟨_,rfl⟩,⟨_,rfl⟩⟩
 ·cases pu.1 rfl;obtain ⟨p,rfl⟩:=pv.2 (.inr (.inl ⟨_,_,_,rfl⟩));exact ⟨by simp[Op.equalIn,run_underlying ht],⟨_,rfl⟩,⟨_,rfl⟩⟩
 ·cases pu.1 rfl;obtain ⟨p,rfl⟩:=pv.2 (.inr (.inr (.inl ⟨_,_,_,_,rfl⟩)));exact ⟨by simp[Op.equalIn,run_underlying ht],⟨_,rfl⟩,⟨_,rfl⟩⟩
 ·cases pu.1 rfl;obtain ⟨p,rfl⟩:=pv.2 (.inr (.inr (.inr ⟨_,_,rfl⟩)));exact ⟨by simp[Op.equalIn,run_underlying ht],⟨_,rfl⟩,⟨_,rfl⟩⟩
 ·cases pv.1 rfl;obtain ⟨p,rfl⟩:=pu.2 (.inl ⟨_,_,_,rfl⟩);exact ⟨by simp[Op.equalIn,run_underlying ht],⟨_,rfl⟩,⟨_,rfl⟩⟩
 ·cases pv.1 rfl;obtain ⟨p,rfl⟩:=pu.2 (.inr (.inl ⟨_,_,_,rfl⟩));exact ⟨by simp[Op.equalIn,run_underlying ht],⟨_,rfl⟩,⟨_,rfl⟩⟩
 ·cases pv.1 rfl;obtain ⟨p,rfl⟩:=pu.2 (.inr (.inr (.inl ⟨_,_,_,_,rfl⟩)));exact ⟨by simp[Op.equalIn,run_underlying ht],⟨_,rfl⟩,⟨_,rfl⟩⟩
 ·cases pv.1 rfl;obtain ⟨p,rfl⟩:=pu.2 (.inr (.inr (.inr ⟨_,_,rfl⟩)));exact ⟨by simp[Op.equalIn,run_underlying ht],⟨_,rfl⟩,⟨_,rfl⟩⟩
theorem k1a {P:Program} {c d:Cell} {b:Bool} {u v:Value} {t:TypeId} {n:Nat} {x y z} (hb:k1b c d=some b) (hu:b0q P W F E c u) (hv:b0q P W F E d v) (ht:P.underlying t=some (.func x y z)) :
  (Op.equalIn (n+1) t u v).run P W = .ok b W∧(u = .nilFunc∨∃f caps,u = .func (.func f) #[] caps)∧(v = .nilFunc∨∃f caps,v = .func (.func f) #[] caps):=by
 have pu:=j1v hu;have pv:=j1v hv;unfold k1b at hb;split at hb<;>(try (cases hb))
 ·cases pu.1 rfl;cases pv.1 rfl;exact ⟨by simp[Op.equalIn,run_underlying ht],.inl rfl,.inl rfl⟩
 ·cases pu.1 rfl;obtain ⟨f,caps,rfl⟩:=pv.2 (.inl ⟨_,_,_,rfl⟩);exact ⟨by simp[Op.equalIn,run_underlying ht],.inl rfl,.inr ⟨_,_,rfl⟩⟩
 ·cases pu.1 rfl;obtain ⟨f,caps,rfl⟩:=pv.2 (.inr ⟨_,_,_,rfl⟩);exact ⟨by simp[Op.equalIn,run_underlying ht],.inl rfl,.inr ⟨_,_,rfl⟩⟩
 ·cases pv.1 rfl;obtain ⟨f,caps,rfl⟩:=pu.2 (.inl ⟨_,_,_,rfl⟩);exact ⟨by simp[Op.equalIn,run_underlying ht],.inr ⟨_,_,rfl⟩,.inl rfl⟩
 ·cases pv.1 rfl;obtain ⟨f,caps,rfl⟩:=pu.2 (.inr ⟨_,_,_,rfl⟩);exact ⟨by simp[Op.equalIn,run_underlying ht],.inr ⟨_,_,rfl⟩,.inl rfl⟩
theorem eqK_rd {t:TypeId} {x y:V} {b:Bool} {u v:Value} {op:BinOp} {p q:Operand} (ht:e0d cx) (hb:eqK (cx.eqk t) (cx.ty t) x y=some b) (hu:RdV cx.P W F E x u) (hv:RdV cx.P W F E y v) :
  (eqGuard op t p q u v).run cx.P W = .ok () W∧(binOp .eql t u v).run cx.P W = .ok (.bool b) W∧(binOp .neq t u v).run cx.P W = .ok (.bool !b) W:=by
 unfold eqK at hb;split at hb
 ·rename_i c d hk;obtain ⟨i,hi,he,hB⟩:=w0e ht (by rw[hk];decide);rw[hk] at he;obtain ⟨e,hund⟩:=eqB_ptr he hB;obtain ⟨h1,⟨p1,rfl⟩,⟨q1,rfl⟩⟩:=j1y (n:=9999) hb hu.single.1 hv.single.1 hund;refine ⟨h0v (fun l m e=>by cases e) (fun e=>by cases e),?_,?_⟩
  ·simp[binOp,Op.equal,Op.maxDepth,h1]
  ·simp[binOp,Op.equal,Op.maxDepth,h1]
 ·rename_i c d hk;obtain ⟨i,hi,he,hB⟩:=w0e ht (by rw[hk];decide);rw[hk] at he;obtain ⟨_,_,_,hund⟩:=eqB_fn he hB;obtain ⟨h1,h2,h3⟩:=k1a (n:=9999) hb hu.single.1 hv.single.1 hund;rcases h2 with rfl | ⟨f,caps,rfl⟩<;>rcases h3 with rfl | ⟨f',caps',rfl⟩
  all_goals
   refine ⟨h0v (fun l m e=>by cases e) (fun e=>by cases e),?_,?_⟩
   ·simp[binOp,Op.equal,Op.maxDepth,h1]
   ·simp[binOp,Op.equal,Op.maxDepth,h1]
 ·rename_i xs ys hk;obtain ⟨i,hi,he,hB⟩:=w0e ht (by rw[hk];decide);rw[hk] at he;unfold eqB at hB;rw[he] at hB;have hty:cx.ty t=i.ty:=by simp[Cx.ty,hi]
  rw[hty] at hb;split at hb
  case h_2=>cases hb
  rename_i c hc;simp only[hc,Bool.and_eq_true,Bool.not_eq_true'] at hB;obtain ⟨ha,hg,heq⟩:=hB;obtain ⟨u1,u2,_⟩:=hu;obtain ⟨v1,v2,_⟩:=hv;obtain ⟨l,rfl⟩:=u2 rfl;obtain ⟨m,rfl⟩:=v2 rfl;obtain ⟨f1,f2,f3⟩:=g1c (flat c) xs ys b _ _ hb u1 v1;have hrun:=g1b (P:=cx.P) (W:=W) 10000 t c _ _ heq f1 f2;rw[←f3] at hrun;simp only[mkv,ha,if_true,Value.cells,Array.toArray_toList] at hrun;refine ⟨run_eqGuard_agg W op t p q l m hg,?_,?_⟩
  ·rw[run_eql_struct,hrun];rfl
  ·rw[run_neq_struct,hrun];rfl
 ·cases hb
theorem k1e {P:Program} {t:TypeId} {i:TI} (he:i.eq=5) (h:eqB P t i=true):∃e,P.underlying t=some (.slice e):=by
 unfold eqB at h;cases hu:P.underlying t with
 | none=>simp[he,hu] at h
 | some d=>cases d<;>simp_all
theorem x0s {P:Program} {t e:TypeId} {n:Nat} (ad:Option Addr) (l m:Nat) (ht:P.underlying t=some (.slice e)) :
  (Op.equalIn (n+1) t (.slice ad l m) (.slice none 0 0)).run P W = .ok ad.isNone W:=by
 cases ad<;>simp[Op.equalIn,run_underlying ht]
theorem x0t {P:Program} {t:TypeId} {d} {n:Nat} (ht:P.underlying t=some (.interface d)):(Op.equalIn (n+1) t .nilIface .nilIface).run P W = .ok true W:=by
 simp[Op.equalIn,run_underlying ht]
theorem x0u {P:Program} {t t':TypeId} {u:Value} {d} {n:Nat} (ht:P.underlying t=some (.interface d)):(Op.equalIn (n+1) t (.iface t' u) .nilIface).run P W = .ok false W:=by
 simp[Op.equalIn,run_underlying ht]
theorem op_nilIf {o:Oper} {k:V→Ups→Option R} {r:R} {op:BinOp} {t yt:TypeId} {x y:Operand} (cc:Ctx cx call W F E N h ρ a) (ho:o.op = .binOp op t x y yt) (hy:t0i y=true)
  (hk:v0u (cx.eqk t) op (ρ x) (fun c=>k (.v false [c]) [])=some r):a0r cx W F E N h a o k r:=by
 obtain rfl:y = .const .nilIface:=by
  unfold t0i at hy;split at hy
  ·rfl
  ·cases hy
 have hx:=cc.ρ x;have hu:cx.eqk t=6→∃d,cx.P.underlying t=some (.interface d):=by
  intro e;obtain ⟨i,hi,he,hB⟩:=w0e cc.tab (t:=t) (by rw[e];decide);rw[e] at he;unfold eqB at hB;rw[he] at hB;cases hd:cx.P.underlying t with
  | none=>simp[hd] at hB
  | some d=>cases d<;>simp_all
 have key:∀b,ρ x = .v false [.val .err b]→cx.eqk t=6→(eqGuard op t x (.const .nilIface) (a.eval x) .nilIface).run cx.P W = .ok () W ∧
   (binOp .eql t (a.eval x) .nilIface).run cx.P W = .ok (.bool !b) W∧(binOp .neq t (a.eval x) .nilIface).run cx.P W = .ok (.bool b) W:=by
  intro b hb e;obtain ⟨d,hd⟩:=hu e;rw[hb] at hx;obtain ⟨_,_,v,h1,h2,h3,h4⟩:=hx.single.1;simp at h1;cases b with
  | false =>
   have hv:=h3 rfl;rw[h1,hv];have h9:=x0t (P:=cx.P) (W:=W) (n:=9999) hd;refine ⟨by simp[eqGuard],?_,?_⟩<;>simp[binOp,Op.equal,Op.maxDepth,h9]
  | true =>
   obtain ⟨t',u,hv⟩:=h4 rfl;rw[h1,hv];have h9:=x0u (P:=cx.P) (W:=W) (t':=t') (u:=u) (n:=9999) hd;refine ⟨by simp[eqGuard],?_,?_⟩<;>simp[binOp,Op.equal,Op.maxDepth,h9]
 unfold v0u at hk;split at hk
 ·rename_i b he hb;obtain ⟨k1,k2,_⟩:=key b hb he;exact a0r.value cc hk (v := .bool !b) (d0f ho rfl rfl k1 k2) (d0d _)
 ·rename_i b he hb;obtain ⟨k1,_,k3⟩:=key b hb he;exact a0r.value cc hk (v := .bool b) (d0f ho rfl rfl k1 k3) (d0d _)
 ·cases hk
theorem op_nilSl {o:Oper} {k:V→Ups→Option R} {r:R} {op:BinOp} {t yt:TypeId} {x y:Operand} (cc:Ctx cx call W F E N h ρ a) (ho:o.op = .binOp op t x y yt) (hy:p0a y=true)
  (hk:v0s (cx.eqk t) op (ρ x) (fun c=>k (.v false [c]) [])=some r):a0r cx W F E N h a o k r:=by
 obtain rfl:y = .const (.slice none 0 0):=by
  unfold p0a at hy;split at hy
  ·rfl
  ·cases hy
 have hx:=cc.ρ x;have key:cx.eqk t=5→∀ad n m,(binOp .eql t (.slice ad n m) (.slice none 0 0)).run cx.P W = .ok (.bool ad.isNone) W∧(binOp .neq t (.slice ad n m) (.slice none 0 0)).run cx.P W = .ok (.bool !ad.isNone) W:=by
  intro e ad n m;obtain ⟨i,hi,he,hB⟩:=w0e cc.tab (t:=t) (by rw[e];decide);rw[e] at he;obtain ⟨el,hund⟩:=k1e he hB;have h1:=x0s (W:=W) (n:=9999) ad n m hund;constructor<;>simp[binOp,Op.equal,Op.maxDepth,h1]
 have any:∀b:Bool,RdV cx.P W F E (.v false [.anyB]) (.bool b):=fun b=>RdV.mk1 ⟨b,rfl⟩ rfl
 have gd:∀op ad n m,(eqGuard op t x (.const (.slice none 0 0)) (.slice ad n m) (.slice none 0 0)).run cx.P W = .ok () W:=fun op ad n m=>h0v (fun l m e=>by cases e) (fun e=>by cases e)
 unfold v0s at hk;split at hk
 ·rename_i e xs hq hX;rw[hX] at hx;obtain ⟨_,_,h3⟩:=hx.single.1;rcases h3 with ⟨rfl,ad,h4⟩ | ⟨b,off,cap,h4,_,_,_⟩
  ·simp at h4;have hk:k (.v false [.anyB]) []=some r:=hk;exact a0r.value cc hk (d0f ho h4 rfl (gd _ _ _ _) (key hq _ _ _).1) (any _)
  ·simp at h4;by_cases hl:xs.length=0
   ·simp only[hl,decide_true,cond_true] at hk;exact a0r.value cc hk (d0f ho h4 rfl (gd _ _ _ _) (key hq _ _ _).1) (any _)
   ·simp only[hl,decide_false,cond_false] at hk;exact a0r.value cc hk (d0f ho h4 rfl (gd _ _ _ _) (key hq _ _ _).1) (d0d _)
 ·rename_i e xs hq hX;rw[hX] at hx;obtain ⟨_,_,h3⟩:=hx.single.1;rcases h3 with ⟨rfl,ad,h4⟩ | ⟨b,off,cap,h4,_,_,_⟩
  ·simp at h4;have hk:k (.v false [.anyB]) []=some r:=hk;exact a0r.value cc hk (d0f ho h4 rfl (gd _ _ _ _) (key hq _ _ _).2) (any _)
  ·simp at h4;by_cases hl:xs.length=0
   ·simp only[hl,decide_true,cond_true] at hk;exact a0r.value cc hk (d0f ho h4 rfl (gd _ _ _ _) (key hq _ _ _).2) (any _)
   ·simp only[hl,decide_false,cond_false] at hk;exact a0r.value cc hk (d0f ho h4 rfl (gd _ _ _ _) (key hq _ _ _).2) (d0d _)
 ·rename_i hq hX;rw[hX] at hx;obtain ⟨ad,h4⟩:∃ad,a.eval x = .slice ad 0 0:=hx.single.1;exact a0r.value cc hk (d0f ho h4 rfl (gd _ _ _ _) (key hq _ _ _).1) (any _)
 ·rename_i hq hX;rw[hX] at hx;obtain ⟨ad,h4⟩:∃ad,a.eval x = .slice ad 0 0:=hx.single.1;exact a0r.value cc hk (d0f ho h4 rfl (gd _ _ _ _) (key hq _ _ _).2) (any _)
 ·cases hk
theorem d1b {o:Oper} {k:V→Ups→Option R} {r:R} {op:BinOp} {t yt:TypeId} {x y:Operand} (cc:Ctx cx call W F E N h ρ a) (ho:o.op = .binOp op t x y yt)
  (hk:binK (cx.eqk t) (cx.ty t) op (ρ x) (ρ y) (fun c=>k (.v false [c]) [])=some r):a0r cx W F E N h a o k r:=by
 have hx:=cc.ρ x;have hy:=cc.ρ y;have fin:∀ {u v w:Value} {c:Cell},a.eval x=u→a.eval y=v→(∀l m,u = .agg l→v = .agg m→False)→(u = .nilIface→v = .nilIface→False)→k (.v false [c]) []=some r →
   (binOp op t u v).run cx.P W = .ok w W→RdV cx.P W F E (.v false [c]) w→a0r cx W F E N h a o k r:=by
  intro u v w c h1 h2 h3 h4 h5 h6 h7;exact a0r.value cc h5 (d0f ho h1 h2 (h0v h3 h4) h6) h7
 unfold binK at hk;split at hk
 ·rename_i kd m kd' n hX hY;rw[hX] at hx;rw[hY] at hy;split at hk
  case isFalse=>cases hk
  rename_i hkd;obtain ⟨c,w,h1,h2,h3⟩:=binI_rd (W:=W) (F:=F) (E:=E) (t:=t) hk hkd;exact fin (g0t hx) (g0t hy) (fun l m e=>by cases e) (fun e=>by cases e) h1 h2 h3
 ·rename_i s1 s2 hX hY;rw[hX] at hx;rw[hY] at hy;obtain ⟨c,w,h1,h2,h3⟩:=binS_rd (cx:=cx) (W:=W) (F:=F) (E:=E) (t:=t) hk;exact fin (n0p hx) (n0p hy) (fun l m e=>by cases e) (fun e=>by cases e) h1 h2 h3
 ·rename_i b1 b2 hX hY;rw[hX] at hx;rw[hY] at hy;have hu:=n0y hx;have hv:=n0y hy;have und:cx.eqk t=4→cx.P.underlying t=some .bool:=by
   intro e;obtain ⟨i,hi,he,hB⟩:=w0e cc.tab (t:=t) (by rw[e];decide);rw[e] at he;exact eqB_bool he hB
  split at hk
  ·rename_i e;have:=run_equalIn_bool' W 9999 t b1 b2 (und e);exact fin hu hv (fun l m e=>by cases e) (fun e=>by cases e) hk (by simp[binOp,Op.equal,Op.maxDepth,this]) (d0d _)
  ·rename_i e;have:=run_equalIn_bool' W 9999 t b1 b2 (und e);exact fin hu hv (fun l m e=>by cases e) (fun e=>by cases e) hk (by simp[binOp,Op.equal,Op.maxDepth,this]) (d0d _)
  ·cases hk
 ·split at hk
  ·rename_i b hb;obtain ⟨h1,h2,h3⟩:=eqK_rd (op := .eql) (p:=x) (q:=y) cc.tab hb hx hy;exact a0r.value cc hk (d0f ho rfl rfl h1 h2) (d0d _)
  ·rename_i b hb;obtain ⟨h1,h2,h3⟩:=eqK_rd (op := .neq) (p:=x) (q:=y) cc.tab hb hx hy;exact a0r.value cc hk (d0f ho rfl rfl h1 h3) (d0d _)
  ·cases hk
end
end Go.Flat
end
section
namespace Go.Flat
open Go.RowKit (Below)
section
variable {P:Program} {W W':World} {F F':Fz}
theorem Rd.toB:∀(t:Ty) {D:Nat→Nat} {x:El t} {g:Get},Rd P t x W F g→RdB P D t x W F [] g:=by
 intro t;induction t with
 | unit=>exact fun _=>rfl
 | pair a b iha ihb=>exact fun h=>⟨[],[],rfl,iha h.1,ihb h.2⟩
 | wrap e ih=>exact fun h=>ih h
 | own e _=>exact fun h=>h.elim
 | ref e _=>exact fun h=>h.elim
 | opt e _=>exact fun h=>h.elim
 | row e _=>exact fun h=>h.elim
 | seg e _=>exact fun h=>h.elim
 | sb T e=>exact fun h=>h.elim
 | mp k e _ _=>exact fun h=>h.elim
 | seq e _=>exact fun h=>h.elim
 | ls e _=>exact fun h=>h.elim
 | tk k=>exact fun h=>h.elim
 | tref k e _=>exact fun h=>h.elim
 | _=>exact fun h=>⟨rfl,h⟩
theorem RdB.toRd:∀(t:Ty) {D:Nat→Nat} {x:El t} {O:List Nat} {g:Get},j0g t=true→RdB P D t x W F O g→O=[]∧Rd P t x W F g:=by
 intro t;induction t with
 | unit=>exact fun _ h=>⟨h,trivial⟩
 | pair a b iha ihb =>
  intro D x O g hc h;simp only[j0g,Bool.and_eq_true] at hc;obtain ⟨O1,O2,rfl,h1,h2⟩:=h;obtain ⟨rfl,k1⟩:=iha hc.1 h1;obtain ⟨rfl,k2⟩:=ihb hc.2 h2;exact ⟨rfl,k1,k2⟩
 | wrap e ih=>exact fun hc h=>ih hc h
 | own e _=>intro D x O g hc;cases hc
 | ref e _=>intro D x O g hc;cases hc
 | opt e _=>intro D x O g hc;cases hc
 | row e _=>intro D x O g hc;cases hc
 | seg e _=>intro D x O g hc;cases hc
 | sb T e=>intro D x O g hc;cases hc
 | mp k e _ _=>intro D x O g hc;cases hc
 | seq e _=>intro D x O g hc;cases hc
 | ls e _=>intro D x O g hc;cases hc
 | tk k=>intro D x O g hc;cases hc
 | tref k e _=>intro D x O g hc;cases hc
 | _=>exact fun _ h=>h
theorem RdB.congr:∀(t:Ty) {D:Nat→Nat} {x:El t} {O:List Nat} {g g':Get},(∀j,j<width t→g' j=g j)→RdB P D t x W F O g→RdB P D t x W F O g':=by
 intro t;induction t with
 | unit=>exact fun _ h=>h
 | pair a b iha ihb =>
  intro D x O g g' hg h;obtain ⟨O1,O2,h0,h1,h2⟩:=h;exact ⟨O1,O2,h0,iha (fun j hj=>hg j (by simp[width];omega)) h1,ihb (fun j hj=>hg _ (by simp[width];omega)) h2⟩
 | wrap e ih=>exact fun hg h=>ih hg h
 | own e _ =>
  intro D x O g g' hg h;have h0:=hg 0 (by simp[width]);rcases h with ⟨h1,h2,p,h3⟩ | ⟨b,cap,h1,h2⟩
  ·exact .inl ⟨h1,h2,p,h0.trans h3⟩
  ·exact .inr ⟨b,cap,h0.trans h1,h2⟩
 | ref e _ =>
  intro D x O g g' hg h;obtain ⟨b,arr,T,O',h1,h2⟩:=h;exact ⟨b,arr,T,O',(hg 0 (by simp[width])).trans h1,h2⟩
 | tk k=>exact fun hg h=>⟨h.1,(hg 0 (by simp[width])).trans h.2⟩
 | tref k e _ =>
  intro D x O g g' hg h;obtain ⟨arr,T,O',h1,h2⟩:=h;exact ⟨arr,T,O',(hg 0 (by simp[width])).trans h1,h2⟩
 | opt e ih =>
  intro D x O g g' hg h;cases x with
  | none=>exact ⟨h.1,(hg 0 (by simp[width])).trans h.2⟩
  | some y=>exact ⟨h.1,ih (fun j hj=>hg j (by have:=h.1;simp[width];omega)) h.2⟩
 | row e _ =>
  intro D x O g g' hg h;obtain ⟨b,cap,h1,h2⟩:=h;exact ⟨b,cap,(hg 0 (by simp[width])).trans h1,h2⟩
 | seg e _ =>
  intro D x O g g' hg h;rcases h with ⟨h1,h2,h3,p,h4⟩ | ⟨b,cap,o,c,h1,h2⟩
  ·exact .inl ⟨h1,h2,h3,p,(hg 0 (by simp[width])).trans h4⟩
  ·exact .inr ⟨b,cap,o,c,(hg 0 (by simp[width])).trans h1,h2⟩
 | sb T e =>
  intro D x O g g' hg h;obtain ⟨v,h1,h2⟩:=h;exact ⟨v,(hg 0 (by simp[width])).trans h1,h2⟩
 | mp k e _ _ =>
  intro D x O g g' hg h;obtain ⟨v,h1,h2⟩:=h;exact ⟨v,(hg 0 (by simp[width])).trans h1,h2⟩
 | seq e _ =>
  intro D x O g g' hg h;obtain ⟨v,h1,h2⟩:=h;exact ⟨v,(hg 0 (by simp[width])).trans h1,h2⟩
 | ls e _ =>
  intro D x O g g' hg h;obtain ⟨v,h1,h2⟩:=h;exact ⟨v,(hg 0 (by simp[width])).trans h1,h2⟩
 | _=>exact fun hg h=>⟨h.1,Rd.congr _ hg h.2⟩
theorem h0g.take {b cap n:Nat} {e:Ty} {xs:List (El e)} (h:h0g P W F b cap e xs):h0g P W F b cap e (xs.take n):=by
 obtain ⟨cs,T,k1,k2,k3,k4,k5,k6⟩:=h;refine ⟨cs,T,k1,k2,by rw[List.length_take];omega,k4,k5,fun i hi => ?_⟩;rw[List.length_take] at hi;have:=k6 i (by omega)
 simpa using this
theorem RdB.lt:∀(t:Ty) {D:Nat→Nat} {x:El t} {O:List Nat} {g:Get},RdB P D t x W F O g→∀b∈O,b<W.heap.size:=by
 intro t;induction t with
 | unit=>intro D x O g h b hb;have:O=[]:=h;rw[this] at hb;cases hb
 | pair a b iha ihb =>
  intro D x O g h c hc;obtain ⟨O1,O2,rfl,h1,h2⟩:=h;rcases List.mem_append.1 hc with hc | hc
  ·exact iha h1 c hc
  ·exact ihb h2 c hc
 | wrap e ih=>exact fun h=>ih h
 | own e _ =>
  intro D x O g h c hc;rcases h with ⟨_,rfl,_⟩ | ⟨b,cap,h1,⟨cs,T,k1,_⟩,rfl⟩
  ·cases hc
  ·simp at hc;subst hc;exact b0k? k1
 | ref e ih =>
  intro D x O g h c hc;obtain ⟨b,arr,T,O',h1,h2,h3,h4,rfl,h5⟩:=h;rcases List.mem_cons.1 hc with rfl | hc
  ·exact b0k? h2
  ·exact ih h5 c hc
 | tref k e ih =>
  intro D x O g h c hc;obtain ⟨arr,T,O',h1,h2,h3,h4,rfl,h5⟩:=h;rcases List.mem_cons.1 hc with rfl | hc
  ·exact b0k? h2
  ·exact ih h5 c hc
 | opt e ih =>
  intro D x O g h c hc;cases x with
  | none=>rw[h.1] at hc;cases hc
  | some y=>exact ih h.2 c hc
 | row e _ =>
  intro D x O g h c hc;obtain ⟨b,cap,h1,⟨⟨cs,T,k1,_⟩,_⟩,rfl⟩:=h;simp at hc;subst hc;exact b0k? k1
 | seg e _ =>
  intro D x O g h c hc;rcases h with ⟨_,_,rfl,_⟩ | ⟨b,cap,o,c',h1,⟨⟨cs,T,k1,_⟩,_⟩,rfl⟩
  ·cases hc
  ·simp at hc;subst hc;exact b0k? k1
 | sb T e =>
  intro D x O g h c hc;obtain ⟨v,h1,h2⟩:=h;exact h2.lt c hc
 | seq e _ =>
  intro D x O g h c hc;obtain ⟨v,h1,h2⟩:=h;exact h2.lt c hc
 | mp k e _ ih =>
  intro D x O g h;obtain ⟨v,h1,h2⟩:=h;exact h2.lt fun i y O' u k=>ih k.2
 | ls e ih =>
  intro D x O g h;obtain ⟨v,h1,h2⟩:=h;exact h2.lt fun i y O' u k=>ih k.2
 | _=>intro D x O g h c hc;rw[h.1] at hc;cases hc
theorem h0g.noshare {b cap:Nat} {e:Ty} {xs:List (El e)} (hs:shares e=false) (h:h0g P W F b cap e xs):h0g P W F' b cap e xs:=by
 obtain ⟨cs,T,k1,k2,k3,k4,k5,k6⟩:=h;exact ⟨cs,T,k1,k2,k3,k4,k5,fun i hi=>(k6 i hi).noshare e hs⟩
theorem RdB.noshare:∀(t:Ty) {D:Nat→Nat} {x:El t} {O:List Nat} {g:Get},shares t=false→RdB P D t x W F O g→RdB P D t x W F' O g:=by
 intro t;induction t with
 | unit=>exact fun _ h=>h
 | pair a b iha ihb =>
  intro D x O g hs h;simp only[shares,Bool.or_eq_false_iff] at hs;obtain ⟨O1,O2,h0,h1,h2⟩:=h;exact ⟨O1,O2,h0,iha hs.1 h1,ihb hs.2 h2⟩
 | wrap e ih=>exact fun hs h=>ih hs h
 | own e _ =>
  intro D x O g hs h;rcases h with h | ⟨b,cap,h1,h2,h3⟩
  ·exact .inl h
  ·exact .inr ⟨b,cap,h1,h2.noshare hs,h3⟩
 | ref e ih =>
  intro D x O g hs h;obtain ⟨b,arr,T,O',h1,h2,h3,h4,h5,h6⟩:=h;exact ⟨b,arr,T,O',h1,h2,h3,h4,h5,ih hs h6⟩
 | tk k=>exact fun _ h=>h
 | tref k e ih =>
  intro D x O g hs h;obtain ⟨arr,T,O',h1,h2,h3,h4,h5,h6⟩:=h;exact ⟨arr,T,O',h1,h2,h3,h4,h5,ih hs h6⟩
 | opt e ih =>
  intro D x O g hs h;cases x with
  | none=>exact h
  | some y=>exact ⟨h.1,ih hs h.2⟩
 | row e _ =>
  intro D x O g hs h;obtain ⟨b,cap,h1,h2,h3⟩:=h;exact ⟨b,cap,h1,⟨h2.1.noshare hs,h2.2⟩,h3⟩
 | seg e _ =>
  intro D x O g hs h;rcases h with h | ⟨b,cap,o,c,h1,h2,h3⟩
  ·exact .inl h
  ·exact .inr ⟨b,cap,o,c,h1,⟨h2.1.noshare hs,h2.2⟩,h3⟩
 | sb T e=>exact fun _ h=>h
 | mp k e _ ih =>
  intro D x O g hs h;obtain ⟨v,h1,h2⟩:=h;exact ⟨v,h1,h2.mono (fun _ _=>rfl) fun i y O' u _ k=>⟨k.1,ih hs k.2⟩⟩
 | ls e ih =>
  intro D x O g hs h;obtain ⟨v,h1,h2⟩:=h;exact ⟨v,h1,h2.mono (fun _ _=>rfl) fun i y O' u _ k=>⟨k.1,ih hs k.2⟩⟩
 | slice e _=>intro D x O g hs;cases hs
 | seq e _=>intro D x O g hs;cases hs
 | ptr e _=>intro D x O g hs;cases hs
 | fn a r _ _=>intro D x O g hs;cases hs
 | _=>exact fun hs h=>⟨h.1,h.2.noshare _ hs⟩
end
section
variable {cx:Cx} {call:Oracle cx} {fx:Hints} {W W':World} {F F':Fz} {E E':EnvM} {h:Heap} {N:Nat→Prop} {ρ:Operand→V} {a:Act} {R:Type}
structure Takes (F:Fz) (h:Heap) (E:EnvM) (taken:List Nat) (O:List Nat):Prop where
 at_:∀b∈O,∃n∈taken,atName h E n b
 free:∀b∈O,¬F b
 nodup:taken.Nodup→O.Nodup
theorem Takes.nil {taken:List Nat}:Takes F h E taken []:=⟨(fun b hb=>by cases hb),(fun b hb=>by cases hb),fun _=>List.nodup_nil⟩
theorem Takes.append {P:Program} {t1 t2 O1 O2:List Nat} (hr:HR P W F E N h) (h1:Takes F h E t1 O1) (h2:Takes F h E t2 O2):Takes F h E (t1++t2) (O1++O2):=by
 refine ⟨fun b hb => ?_,fun b hb => ?_,fun hn => ?_⟩
 ·rcases List.mem_append.1 hb with hb | hb
  ·obtain ⟨n,hn,k⟩:=h1.at_ b hb;exact ⟨n,by simp[hn],k⟩
  ·obtain ⟨n,hn,k⟩:=h2.at_ b hb;exact ⟨n,by simp[hn],k⟩
 ·rcases List.mem_append.1 hb with hb | hb
  ·exact h1.free b hb
  ·exact h2.free b hb
 ·rw[List.nodup_append] at hn ⊢;refine ⟨h1.nodup hn.1,h2.nodup hn.2.1,fun b hb1 c hc1 e => ?_⟩;subst e;obtain ⟨n,hn1,k1⟩:=h1.at_ b hb1;obtain ⟨m,hm1,k2⟩:=h2.at_ b hc1;exact hn.2.2 n hn1 m hm1 (b0h hr k1 k2)
theorem z0a {P:Program} (hr:HR P W F E N h) {t:Ty} {c:Cell} {cs:List Cell} {x:El t} {rest:List Cell} {taken lent:List Nat} (hp:v0o h t c cs=some (x,rest,taken,lent)) {v:Value} (hv:b0q P W F E c v) :
  ∃n v0 ver,c = .sl n v0∧∃base bs,(base≤v0∧v0≤ver)∧ver≤E.top n∧rest=cs∧taken=[n]∧lent=[]∧(∀j,base≤j→j≤ver→∃bs',E.m n j=some (.tree v bs')) ∧
   ∃L,h[n]? = some (ver,some (.sealed n base ver t x none false))∧E.m n ver=some L∧L = .tree v bs∧f0m P W F E t x none bs v∧v.oneCell'=true∧(bs.Nodup∧∀b∈bs,¬F b)∧∀b∈bs,L.has b:=by
 unfold v0o at hp;split at hp
 case h_2=>cases hp
 rename_i n v0;split at hp
 case h_2=>cases hp
 rename_i ver n' base top t' x' hn;split at hp
 case isFalse=>cases hp
 rename_i hcond;obtain ⟨rfl,hb1,hb2,rfl⟩:=hcond;simp only[Option.map_eq_some_iff] at hp;obtain ⟨y,hy,hxy⟩:=hp;simp only[Prod.mk.injEq] at hxy;obtain ⟨rfl,rfl,rfl,rfl⟩:=hxy;obtain ⟨he,hys⟩:=a0v hy;subst he;simp only at hys;subst hys;obtain ⟨_,L,hL,w,bs,rfl,g1,g2,g3,g4,g5⟩:=hr.blk n _ _ hn;obtain ⟨k1,k2,k3⟩:=g5 rfl;obtain ⟨bs',hbs'⟩:=g3 v0 hb1 hb2;have hvw:v=w:=hv.2.2 _ hbs';subst hvw;exact ⟨n,v0,_,rfl,base,bs,⟨hb1,hb2⟩,g2,rfl,rfl,rfl,g3,_,hn,hL,rfl,k1,k1.one,⟨k2,k3⟩,fun b hb=>hb⟩
theorem o0b:∀(Os:List (List Nat)) (j:Nat) (O:List Nat),Os[j]? = some []→(Os.set j O).flatten.Perm (O++Os.flatten):=by
 intro Os;induction Os with
 | nil=>intro j O h;simp at h
 | cons P Os ih =>
  intro j O h;cases j with
  | zero=>simp at h;subst h;simp
  | succ j =>
   simp only[List.set_cons_succ,List.flatten_cons];exact (List.Perm.append_left P (ih j O (by simpa using h))).trans (List.perm_append_comm_assoc _ _ _)
theorem s0z {t:Ty} {c:Cell} {cs:List Cell} {x:El t} {rest:List Cell} {taken lent:List Nat} (hp:v0o h t c cs=some (x,rest,taken,lent)):rest=cs:=by
 unfold v0o at hp;split at hp
 ·split at hp
  ·split at hp
   ·obtain ⟨_,_,hp⟩:=Option.map_eq_some_iff.1 hp;simp only[Prod.mk.injEq] at hp;exact hp.2.1.symm
   ·cases hp
  ·cases hp
 ·cases hp
theorem v0p:∀(t:Ty) (cs:List Cell) (x:El t) (rest:List Cell) (taken lent:List Nat),b0b cx call h t cs=some (x,rest,taken,lent)→rest=cs.drop (width t):=by
 intro t;induction t with
 | unit=>intro cs x rest taken lent hp;simp only[b0b,Option.some.injEq,Prod.mk.injEq] at hp;rw[←hp.2.1];rfl
 | pair a b iha ihb =>
  intro cs x rest taken lent hp;simp only[b0b] at hp;obtain ⟨y,h1,hp⟩:=Option.bind_eq_some_iff.1 hp;obtain ⟨z,h2,hp⟩:=Option.map_eq_some_iff.1 hp;simp only[Prod.mk.injEq] at hp;obtain ⟨_,rfl,_,_⟩:=hp;rw[ihb y.2.1 z.1 z.2.1 z.2.2.1 z.2.2.2 h2,iha cs y.1 y.2.1 y.2.2.1 y.2.2.2 h1,List.drop_drop];rfl
 | wrap e ih=>intro cs x rest taken lent hp;exact ih cs x rest taken lent (by simpa only [b0b] using hp)
 | opt e ih =>
  intro cs x rest taken lent hp;cases cs with
  | nil=>simp[b0b] at hp
  | cons c cs =>
   show rest=cs;unfold b0b at hp;split at hp
   ·simp only[Option.some.injEq,Prod.mk.injEq] at hp;exact hp.2.1.symm
   ·obtain ⟨y,_,hp⟩:=Option.bind_eq_some_iff.1 hp;split at hp
    ·simp only[Option.some.injEq,Prod.mk.injEq] at hp;exact hp.2.1.symm
    ·cases hp
 | sb T e =>
  intro cs x rest taken lent hp;cases cs with
  | nil=>simp[b0b] at hp
  | cons c cs =>
   show rest=cs;simp only[b0b] at hp;exact s0z hp
 | seq e _ =>
  intro cs x rest taken lent hp;cases cs with
  | nil=>simp[b0b] at hp
  | cons c cs =>
   show rest=cs;simp only[b0b] at hp;exact s0z hp
 | row e _ =>
  intro cs x rest taken lent hp;cases cs with
  | nil=>simp[b0b] at hp
  | cons c cs =>
   show rest=cs;simp only[b0b] at hp;split at hp
   ·split at hp
    ·split at hp
     ·obtain ⟨_,_,hp⟩:=Option.map_eq_some_iff.1 hp;simp only[Prod.mk.injEq] at hp;exact hp.2.1.symm
     ·cases hp
    ·cases hp
   ·cases hp
 | seg e _ =>
  intro cs x rest taken lent hp;cases cs with
  | nil=>simp[b0b] at hp
  | cons c cs =>
   show rest=cs;simp only[b0b] at hp;split at hp
   ·split at hp
    ·split at hp
     ·obtain ⟨_,_,hp⟩:=Option.map_eq_some_iff.1 hp;simp only[Prod.mk.injEq] at hp;exact hp.2.1.symm
     ·cases hp
    ·cases hp
   ·cases hp
 | own e _ =>
  intro cs x rest taken lent hp;cases cs with
  | nil=>simp[b0b] at hp
  | cons c cs =>
   show rest=cs;simp only[b0b] at hp;split at hp
   ·simp only[Option.some.injEq,Prod.mk.injEq] at hp;exact hp.2.1.symm
   ·split at hp
    ·split at hp
     ·obtain ⟨_,_,hp⟩:=Option.map_eq_some_iff.1 hp;simp only[Prod.mk.injEq] at hp;exact hp.2.1.symm
     ·cases hp
    ·cases hp
   ·split at hp
    ·split at hp
     ·obtain ⟨_,_,hp⟩:=Option.map_eq_some_iff.1 hp;simp only[Prod.mk.injEq] at hp;exact hp.2.1.symm
     ·cases hp
    ·cases hp
   ·cases hp
 | ref e _ =>
  intro cs x rest taken lent hp;cases cs with
  | nil=>simp[b0b] at hp
  | cons c cs =>
   show rest=cs;simp only[b0b] at hp;split at hp
   ·split at hp
    ·split at hp
     ·obtain ⟨y,_,hp⟩:=Option.bind_eq_some_iff.1 hp;split at hp
      ·simp only[Option.some.injEq,Prod.mk.injEq] at hp;exact hp.2.1.symm
      ·cases hp
     ·cases hp
    ·cases hp
   ·cases hp
 | tref k e _ =>
  intro cs x rest taken lent hp;cases cs with
  | nil=>simp[b0b] at hp
  | cons c cs =>
   show rest=cs;simp only[b0b] at hp;split at hp
   ·split at hp
    ·split at hp
     ·obtain ⟨y,_,hp⟩:=Option.bind_eq_some_iff.1 hp;split at hp
      ·simp only[Option.some.injEq,Prod.mk.injEq] at hp;exact hp.2.1.symm
      ·cases hp
     ·cases hp
    ·cases hp
   ·cases hp
 | tk k =>
  intro cs x rest taken lent hp;cases cs with
  | nil=>simp[b0b] at hp
  | cons c cs =>
   show rest=cs;simp only[b0b] at hp;split at hp
   ·split at hp
    ·simp only[Option.some.injEq,Prod.mk.injEq] at hp;exact hp.2.1.symm
    ·cases hp
   ·cases hp
 | mp k e _ _ =>
  intro cs x rest taken lent hp;cases cs with
  | nil=>simp[b0b] at hp
  | cons c cs =>
   show rest=cs;simp only[b0b] at hp;split at hp
   ·split at hp
    ·split at hp
     ·obtain ⟨xs,_,hp⟩:=Option.bind_eq_some_iff.1 hp;split at hp
      ·simp only[Option.some.injEq,Prod.mk.injEq] at hp;exact hp.2.1.symm
      ·rename_i i hc;cases hnt:noTk e with
       | false=>rw[hnt] at hp;cases hp
       | true =>
        rw[hnt] at hp;simp only[cond_true] at hp;obtain ⟨y,_,hp⟩:=Option.bind_eq_some_iff.1 hp;split at hp
        ·simp only[Option.some.injEq,Prod.mk.injEq] at hp;exact hp.2.1.symm
        ·cases hp
     ·cases hp
    ·cases hp
   ·cases hp
 | ls e _ =>
  intro cs x rest taken lent hp;cases cs with
  | nil=>simp[b0b] at hp
  | cons c cs =>
   show rest=cs;simp only[b0b] at hp;split at hp
   ·simp only[Option.some.injEq,Prod.mk.injEq] at hp;exact hp.2.1.symm
   ·split at hp
    ·split at hp
     ·obtain ⟨xs,_,hp⟩:=Option.bind_eq_some_iff.1 hp;split at hp
      ·simp only[Option.some.injEq,Prod.mk.injEq] at hp;exact hp.2.1.symm
      ·rename_i i hc;cases hnt:noTk e with
       | false=>rw[hnt] at hp;cases hp
       | true =>
        rw[hnt] at hp;simp only[cond_true] at hp;obtain ⟨y,_,hp⟩:=Option.bind_eq_some_iff.1 hp;split at hp
        ·simp only[Option.some.injEq,Prod.mk.injEq] at hp;exact hp.2.1.symm
        ·cases hp
     ·cases hp
    ·cases hp
   ·cases hp
 | _ =>
  intro cs x rest taken lent hp;cases cs with
  | nil=>simp[b0b] at hp
  | cons c cs =>
   show rest=cs;simp only[b0b] at hp;obtain ⟨_,_,hp⟩:=Option.map_eq_some_iff.1 hp;simp only[Prod.mk.injEq] at hp;exact hp.2.1.symm
theorem n0h:∀(t:Ty) (cs:List Cell),noTk t=true→g0y h t cs=[]:=by
 intro t;induction t with
 | pair a b iha ihb =>
  intro cs hn;simp only[noTk,tkNs,List.isEmpty_iff,List.append_eq_nil_iff] at hn;simp only[g0y,iha cs (by simp[noTk,hn.1]),ihb _ (by simp[noTk,hn.2]),List.append_nil]
 | wrap e ih=>intro cs hn;exact ih cs hn
 | ref e ih =>
  intro cs hn;cases cs with
  | nil=>rfl
  | cons c cs=>cases c<;>first | rfl | exact ih _ hn
 | opt e ih =>
  intro cs hn;cases cs with
  | nil=>rfl
  | cons c cs=>exact ih _ hn
 | tk k=>intro cs hn;cases hn
 | tref k e _=>intro cs hn;cases hn
 | _=>intro cs _;cases cs<;>rfl
theorem x0d (hc:CallSound cx call W F) (hr:HR cx.P W F E N h):∀(t:Ty) (cs:List Cell) (x:El t) (rest:List Cell) (taken lent:List Nat),
  b0b cx call h t cs=some (x,rest,taken,lent)→∀D:Nat→Nat,(∀p∈g0y h t cs,E.m p.2 (a0h h p.2)=some (.box (D p.1)))→∀vs:List Value,a0d cx.P W F E cs vs →
   ∃O,RdB cx.P D t x W (a0g F h E lent) O (fun j=>vs[j]?)∧Takes F h E taken O∧a0d cx.P W F E rest (vs.drop (width t))∧width t≤vs.length:=by
 intro t;have leafCase:∀(D:Nat→Nat) (t:Ty),(∀(x:El t) W F g,Rd cx.P t x W F g→RdB cx.P D t x W F [] g)→∀(c:Cell) (cs:List Cell) (x:El t) (rest:List Cell) (taken lent:List Nat),
   (leaf cx call h t c).map (fun x=>(x.1,cs,([]:List Nat),x.2))=some (x,rest,taken,lent)→∀vs:List Value,a0d cx.P W F E (c::cs) vs →
   ∃O,RdB cx.P D t x W (a0g F h E lent) O (fun j=>vs[j]?)∧Takes F h E taken O∧a0d cx.P W F E rest (vs.drop (width t))∧width t≤vs.length:=by
  intro D t hB c cs x rest taken lent hp vs hv;obtain ⟨v,r,rfl,h1,h2,h3⟩:=hv.uncons;simp only[Option.map_eq_some_iff] at hp;obtain ⟨y,hy,hxy⟩:=hp;simp only[Prod.mk.injEq] at hxy;obtain ⟨rfl,rfl,rfl,rfl⟩:=hxy;obtain ⟨k1,k2,k3⟩:=j1g hc hr (x:=y.1) (ns:=y.2) hy h1;refine ⟨[],hB _ _ _ _ (Rd.congr t (fun j hj => ?_) k3),Takes.nil,by rw[k1];exact h3,by rw[k1];simp⟩;have:j=0:=by omega
  subst this;simp
 induction t with
 | unit =>
  intro cs x rest taken lent hp D hD vs hv;simp only[b0b,Option.some.injEq,Prod.mk.injEq] at hp;obtain ⟨_,rfl,rfl,rfl⟩:=hp;exact ⟨[],rfl,Takes.nil,hv,Nat.zero_le _⟩
 | pair a b iha ihb =>
  intro cs x rest taken lent hp D hD vs hv;simp only[b0b] at hp;cases h1:b0b cx call h a cs with
  | none=>rw[h1] at hp;cases hp
  | some y =>
   rw[h1] at hp;simp only[Option.bind_some] at hp;cases h2:b0b cx call h b y.2.1 with
   | none=>rw[h2] at hp;cases hp
   | some z =>
    rw[h2] at hp;simp only[Option.map_some,Option.some.injEq,Prod.mk.injEq] at hp;obtain ⟨rfl,rfl,rfl,rfl⟩:=hp;obtain ⟨O1,k1,k2,k3,k4⟩:=iha cs y.1 y.2.1 y.2.2.1 y.2.2.2 h1 D (fun p hp=>hD p (List.mem_append_left _ hp)) vs hv;obtain ⟨O2,m1,m2,m3,m4⟩:=ihb y.2.1 z.1 z.2.1 z.2.2.1 z.2.2.2 h2 D (fun p hp=>hD p (List.mem_append_right _ (by rw[v0p a cs y.1 y.2.1 y.2.2.1 y.2.2.2 h1] at hp;exact hp))) _ k3;refine ⟨O1++O2,⟨O1,O2,rfl,k1.later a (Later.same a0g.left) (fun _ _=>rfl),?_⟩,k2.append hr m2,?_,?_⟩
    ·refine RdB.congr b ?_ (m1.later b (Later.same a0g.right) (fun _ _=>rfl));intro j _;simp
    ·simpa [width] using m3
    ·simp[width] at m4 ⊢;omega
 | wrap e ih =>
  intro cs x rest taken lent hp D hD vs hv;exact ih cs x rest taken lent (by simpa only [b0b] using hp) D hD vs hv
 | own e _ =>
  intro cs x rest taken lent hp D hD vs hv;cases cs with
  | nil=>simp[b0b] at hp
  | cons c cs =>
   obtain ⟨v,r,rfl,h1,h2,h3⟩:=hv.uncons;simp only[b0b] at hp;split at hp
   case h_4=>cases hp
   ·simp only[Option.some.injEq,Prod.mk.injEq] at hp;obtain ⟨rfl,rfl,rfl,rfl⟩:=hp;obtain ⟨p,rfl⟩:=h1;exact ⟨[],.inl ⟨rfl,rfl,p,rfl⟩,Takes.nil,h3,by simp[width]⟩
   ·rename_i n ver;split at hp
    case h_2=>cases hp
    rename_i ver' e' xs hn;split at hp
    case isFalse=>cases hp
    rename_i hver;subst hver;simp only[Option.map_eq_some_iff] at hp;obtain ⟨ys,hy,hxy⟩:=hp;simp only[Prod.mk.injEq] at hxy;obtain ⟨rfl,rfl,rfl,rfl⟩:=hxy;obtain ⟨he,hys⟩:=a0v hy;injection he with he;subst he;simp only at hys;subst hys;obtain ⟨g1,g2,g3⟩:=h1;rw[a0j];rcases c0p hr hn with ⟨q1,rfl⟩ | ⟨b,cap,q1,q2,q3,_⟩
    ·obtain ⟨p,rfl⟩:c0w (.lall n ver) .nil v:=g3 _ q1;exact ⟨[],.inl ⟨rfl,rfl,p,rfl⟩,Takes.nil,h3,by simp[width]⟩
    ·have hp:v = .slice (some ⟨b,0,none⟩) ys.length cap:=g3 _ q1;subst hp;refine ⟨[b],.inr ⟨b,cap,rfl,q2,rfl⟩,⟨fun c hc => ?_,fun c hc => ?_,fun _=>by simp⟩,h3,by simp[width]⟩
     ·simp at hc;subst hc;exact ⟨n,by simp,ver,_,_,hn,q1,rfl⟩
     ·simp at hc;subst hc;exact q3 rfl
   ·rename_i n ver off len;split at hp
    case h_2=>cases hp
    rename_i ver' e' xs hn;split at hp
    case isFalse=>cases hp
    rename_i hver;obtain ⟨hver,hoff⟩:=hver;subst hver;subst hoff;simp only[Option.map_eq_some_iff] at hp;obtain ⟨ys,hy,hxy⟩:=hp;simp only[Prod.mk.injEq] at hxy;obtain ⟨rfl,rfl,rfl,rfl⟩:=hxy;obtain ⟨he,hys⟩:=a0v hy;injection he with he;subst he;simp only at hys;subst hys;obtain ⟨g1,g2,g3⟩:=h1;rw[a0j];rcases c0p hr hn with ⟨q1,rfl⟩ | ⟨b,cap,q1,q2,q3,_⟩
    ·obtain ⟨⟨p,rfl⟩,rfl,_⟩:c0w (.lsl n ver 0 len) .nil v:=g3 _ q1;exact ⟨[],.inl ⟨by simp,rfl,p,rfl⟩,Takes.nil,h3,by simp[width]⟩
    ·obtain ⟨hle,o',c,rfl,hlc,hoc,hoe⟩:c0w (.lsl n ver 0 len) (.arr b (width e') xs.length cap) v:=g3 _ q1;rcases Nat.eq_zero_or_pos c with rfl | hpos
     ·have:len=0:=by omega
      subst this;exact ⟨[],.inl ⟨by simp,rfl,_,rfl⟩,Takes.nil,h3,by simp[width]⟩
     ·obtain ⟨k1,k2⟩:=hoc hpos;have e1:o'=0:=by simpa using k1
      have e2:c=cap:=by omega
      subst e1;subst e2;have hlen:(xs.take len).length=len:=by rw[List.length_take];omega
      refine ⟨[b],.inr ⟨b,c,by rw[hlen];rfl,q2.take,rfl⟩,⟨fun c hc => ?_,fun c hc => ?_,fun _=>by simp⟩,h3,by simp[width]⟩
      ·simp at hc;subst hc;exact ⟨n,by simp,ver,_,_,hn,q1,rfl⟩
      ·simp at hc;subst hc;exact q3 rfl
 | ref e ih =>
  intro cs x rest taken lent hp D hD vs hv;cases cs with
  | nil=>simp[b0b] at hp
  | cons c cs =>
   obtain ⟨v,r,rfl,h1,h2,h3⟩:=hv.uncons;simp only[b0b] at hp;split at hp
   case h_2=>cases hp
   rename_i n ver off;split at hp
   case h_2=>cases hp
   rename_i ver' bt bs hn;split at hp
   case isFalse=>cases hp
   rename_i hver;obtain ⟨hver,hoff⟩:=hver;subst hver;subst hoff;cases hq:b0b cx call h e bs with
   | none=>rw[hq] at hp;cases hp
   | some y =>
    rw[hq] at hp;simp only[Option.bind_some] at hp;split at hp
    case h_2=>cases hp
    rename_i hnil;simp only[Option.some.injEq,Prod.mk.injEq] at hp;obtain ⟨rfl,rfl,rfl,rfl⟩:=hp;obtain ⟨b,arr,T,q1,q2,q3,q4,q5,_⟩:=o0f hr hn;obtain ⟨O,k1,k2,k3,k4⟩:=ih bs y.1 y.2.1 y.2.2.1 y.2.2.2 hq D (fun p hp=>hD p (by simpa only [g0y,l0b,hn] using hp)) _ q3;rw[hnil] at k3;have hw:arr.size=width e:=by have:=k3.1;simp at this;simp at k4;omega
    have hp:v = .pointer (some ⟨b,0,none⟩):=h1.2.2 _ q1;subst hp;have hat:atName h E n b:=⟨ver,_,_,hn,q1,rfl⟩;refine ⟨b::O,⟨b,arr,T,O,rfl,q2,hw,a0d.one_all q3,rfl,?_⟩,⟨fun c hc => ?_,fun c hc => ?_,fun hnd => ?_⟩,h3,by simp[width]⟩
    ·simpa using k1
    ·rcases List.mem_cons.1 hc with rfl | hc
     ·exact ⟨n,by simp,hat⟩
     ·obtain ⟨m,hm,k⟩:=k2.at_ c hc;exact ⟨m,by simp[hm],k⟩
    ·rcases List.mem_cons.1 hc with rfl | hc
     ·exact q5 rfl
     ·exact k2.free c hc
    ·rw[List.nodup_cons] at hnd ⊢;refine ⟨fun hb => ?_,k2.nodup hnd.2⟩;obtain ⟨m,hm,k⟩:=k2.at_ b hb;exact hnd.1 (b0h hr hat k ▸ hm)
 | tref d e ih =>
  intro cs x rest taken lent hp D hD vs hv;cases cs with
  | nil=>simp[b0b] at hp
  | cons c cs =>
   obtain ⟨v,r,rfl,h1,h2,h3⟩:=hv.uncons;simp only[b0b] at hp;split at hp
   case h_2=>cases hp
   rename_i n ver off;split at hp
   case h_2=>cases hp
   rename_i ver' bt bs hn;split at hp
   case isFalse=>cases hp
   rename_i hver;obtain ⟨hver,hoff⟩:=hver;subst hver;subst hoff;cases hq:b0b cx call h e bs with
   | none=>rw[hq] at hp;cases hp
   | some y =>
    rw[hq] at hp;simp only[Option.bind_some] at hp;split at hp
    case h_2=>cases hp
    rename_i hnil;simp only[Option.some.injEq,Prod.mk.injEq] at hp;obtain ⟨rfl,rfl,rfl,rfl⟩:=hp;obtain ⟨b,arr,T,q1,q2,q3,q4,q5,_⟩:=o0f hr hn;obtain ⟨O,k1,k2,k3,k4⟩:=ih bs y.1 y.2.1 y.2.2.1 y.2.2.2 hq D (fun p hp=>hD p (List.mem_cons_of_mem _ (by simpa only [l0b,hn] using hp))) _ q3;rw[hnil] at k3;have hw:arr.size=width e:=by have:=k3.1;simp at this;simp at k4;omega
    have hp:v = .pointer (some ⟨b,0,none⟩):=h1.2.2 _ q1;subst hp;have hbd:b=D d:=by
     have:=hD (d,n) (List.mem_cons_self ..);simp only[a0h,hn] at this;rw[q1] at this;injection this with this;injection this
    subst hbd;have hat:atName h E n (D d):=⟨ver,_,_,hn,q1,rfl⟩;refine ⟨D d::O,⟨arr,T,O,rfl,q2,hw,a0d.one_all q3,rfl,?_⟩,⟨fun c hc => ?_,fun c hc => ?_,fun hnd => ?_⟩,h3,by simp[width]⟩
    ·simpa using k1
    ·rcases List.mem_cons.1 hc with rfl | hc
     ·exact ⟨n,by simp,hat⟩
     ·obtain ⟨m,hm,k⟩:=k2.at_ c hc;exact ⟨m,by simp[hm],k⟩
    ·rcases List.mem_cons.1 hc with rfl | hc
     ·exact q5 rfl
     ·exact k2.free c hc
    ·rw[List.nodup_cons] at hnd ⊢;refine ⟨fun hb => ?_,k2.nodup hnd.2⟩;obtain ⟨m,hm,k⟩:=k2.at_ _ hb;exact hnd.1 (b0h hr hat k ▸ hm)
 | tk d =>
  intro cs x rest taken lent hp D hD vs hv;cases cs with
  | nil=>simp[b0b] at hp
  | cons c cs =>
   obtain ⟨v,r,rfl,h1,h2,h3⟩:=hv.uncons;simp only[b0b] at hp;split at hp
   case h_2=>cases hp
   rename_i n ver off;split at hp
   case isFalse=>cases hp
   rename_i hver;obtain ⟨rfl,rfl⟩:=hver;simp only[Option.some.injEq,Prod.mk.injEq] at hp;obtain ⟨_,rfl,rfl,rfl⟩:=hp;have hp:v = .pointer (some ⟨D d,0,none⟩):=h1.2.2 _ (hD (d,n) (List.mem_cons_self ..));subst hp;exact ⟨[],⟨rfl,rfl⟩,Takes.nil,h3,by simp[width]⟩
 | opt e ih =>
  intro cs x rest taken lent hp D hD vs hv;cases cs with
  | nil=>simp[b0b] at hp
  | cons c cs =>
   obtain ⟨v,r,rfl,h1,h2,h3⟩:=hv.uncons;have some_:(b0b cx call h e [c]).bind (fun x=>match x.2.1 with | []=>some (some x.1,cs,x.2.2) | _=>none)=some (x,rest,taken,lent) →
     ∃O,RdB cx.P D (.opt e) x W (a0g F h E lent) O (fun j=>(v::r)[j]?)∧Takes F h E taken O∧a0d cx.P W F E rest ((v::r).drop (width (.opt e)))∧width (.opt e)≤(v::r).length:=by
    intro hp;cases hq:b0b cx call h e [c] with
    | none=>rw[hq] at hp;cases hp
    | some y =>
     rw[hq] at hp;simp only[Option.bind_some] at hp;split at hp
     case h_2=>cases hp
     rename_i hnil;simp only[Option.some.injEq,Prod.mk.injEq] at hp;obtain ⟨rfl,rfl,h4⟩:=hp;obtain ⟨O,k1,k2,k3,k4⟩:=ih [c] y.1 y.2.1 y.2.2.1 y.2.2.2 hq D hD [v] (a0d.one h1 h2);rw[h4] at k1 k2;rw[hnil] at k3;have hl:=k3.1;simp at hl k4;by_cases hw:width e=1
     ·refine ⟨O,⟨hw,RdB.congr e (fun j hj => ?_) k1⟩,k2,h3,by simp[width]⟩;have:j=0:=by omega
      subst this;rfl
     ·exfalso;omega
   unfold b0b at hp;cases c with
   | np =>
    simp only[Option.some.injEq,Prod.mk.injEq] at hp;obtain ⟨rfl,rfl,rfl,rfl⟩:=hp;have:v = .pointer none:=h1;subst this;exact ⟨[],⟨rfl,rfl⟩,Takes.nil,h3,by simp[width]⟩
   | _=>exact some_ hp
 | row e _ =>
  intro cs x rest taken lent hp D hD vs hv;cases cs with
  | nil=>simp[b0b] at hp
  | cons c cs =>
   obtain ⟨v,r,rfl,h1,h2,h3⟩:=hv.uncons;simp only[b0b] at hp;split at hp
   case h_2=>cases hp
   rename_i n ver;split at hp
   case h_2=>cases hp
   rename_i ver' e' xs hn;split at hp
   case isFalse=>cases hp
   rename_i hver;subst hver;simp only[Option.map_eq_some_iff] at hp;obtain ⟨ys,hy,hxy⟩:=hp;simp only[Prod.mk.injEq] at hxy;obtain ⟨rfl,rfl,rfl,rfl⟩:=hxy;obtain ⟨he,hys⟩:=a0v hy;injection he with he;subst he;simp only at hys;subst hys;obtain ⟨g1,g2,g3⟩:=h1;rw[a0j];rcases c0p hr hn with ⟨q1,rfl⟩ | ⟨b,cap,q1,q2,q3,_⟩
   ·exact (g3 _ q1:False).elim
   ·obtain ⟨hp,hcap⟩:v = .pointer (some ⟨b,0,none⟩)∧_=cap:=g3 _ q1;subst hp;refine ⟨[b],⟨b,cap,rfl,⟨q2,hcap⟩,rfl⟩,⟨fun c hc => ?_,fun c hc => ?_,fun _=>by simp⟩,h3,by simp[width]⟩
    ·simp at hc;subst hc;exact ⟨n,by simp,ver,_,_,hn,q1,rfl⟩
    ·simp at hc;subst hc;exact q3 rfl
 | seg e _ =>
  intro cs x rest taken lent hp D hD vs hv;cases cs with
  | nil=>simp[b0b] at hp
  | cons c cs =>
   obtain ⟨v,r,rfl,h1,h2,h3⟩:=hv.uncons;simp only[b0b] at hp;split at hp
   case h_2=>cases hp
   rename_i n ver off len;split at hp
   case h_2=>cases hp
   rename_i ver' e' xs hn;split at hp
   case isFalse=>cases hp
   rename_i hver;subst hver;simp only[Option.map_eq_some_iff] at hp;obtain ⟨ys,hy,hxy⟩:=hp;simp only[Prod.mk.injEq] at hxy;obtain ⟨rfl,rfl,rfl,rfl⟩:=hxy;obtain ⟨he,hys⟩:=a0v hy;injection he with he;subst he;simp only at hys;subst hys;obtain ⟨g1,g2,g3⟩:=h1;rw[a0j];rcases c0p hr hn with ⟨q1,rfl⟩ | ⟨b,cap,q1,q2,q3,_⟩
   ·obtain ⟨⟨p,hp⟩,hl0,ho0⟩:c0w (.lsl n ver off len) .nil v:=g3 _ q1;subst hl0;subst ho0;subst hp;exact ⟨[],.inl ⟨rfl,rfl,rfl,p,rfl⟩,⟨(fun b hb=>by cases hb),(fun b hb=>by cases hb),fun _=>List.nodup_nil⟩,h3,by simp[width]⟩
   ·obtain ⟨hle,o,c,hp,hlc,hoc,hoe⟩:=g3 _ q1;subst hp;refine ⟨[b],.inr ⟨b,cap,o,c,rfl,⟨q2,hle,hlc,hoe,fun h0=>(hoc h0).1⟩,rfl⟩,⟨fun c hc => ?_,fun c hc => ?_,fun _=>by simp⟩,h3,by simp[width]⟩
    ·simp at hc;subst hc;exact ⟨n,by simp,ver,_,_,hn,q1,rfl⟩
    ·simp at hc;subst hc;exact q3 rfl
 | sb T e =>
  intro cs x rest taken lent hp D hD vs hv;cases cs with
  | nil=>simp[b0b] at hp
  | cons c cs =>
   obtain ⟨v,r,rfl,h1,h2,h3⟩:=hv.uncons;simp only[b0b] at hp;obtain ⟨n,v0,ver,rfl,_,_,_,_,rfl,rfl,rfl,_,L,hn,hL,_,q1,_,q3,q4⟩:=z0a hr hp h1;rw[a0j];exact ⟨_,⟨v,rfl,q1.2⟩,⟨fun c hc=>⟨n,by simp,ver,_,_,hn,hL,q4 c hc⟩,q3.2,fun _=>q3.1⟩,h3,by simp[width]⟩
 | seq e _ =>
  intro cs x rest taken lent hp D hD vs hv;cases cs with
  | nil=>simp[b0b] at hp
  | cons c cs =>
   obtain ⟨v,r,rfl,h1,h2,h3⟩:=hv.uncons;simp only[b0b] at hp;obtain ⟨n,v0,ver,rfl,_,_,_,_,rfl,rfl,rfl,_,L,hn,hL,_,q1,_,q3,q4⟩:=z0a hr hp h1;rw[a0j];exact ⟨_,⟨v,rfl,q1.2⟩,⟨fun c hc=>⟨n,by simp,ver,_,_,hn,hL,q4 c hc⟩,q3.2,fun _=>q3.1⟩,h3,by simp[width]⟩
 | mp k e _ ih =>
  intro cs x rest taken lent hp D hD vs hv;cases cs with
  | nil=>simp[b0b] at hp
  | cons c cs =>
   obtain ⟨v,r,rfl,h1,h2,h3⟩:=hv.uncons;simp only[b0b] at hp;split at hp
   case h_2=>cases hp
   rename_i n v0;split at hp
   case h_2=>cases hp
   rename_i ver n' base top t' x' hole hn;split at hp
   case isFalse=>cases hp
   rename_i hcond;obtain ⟨rfl,hb1,hb2,rfl⟩:=hcond;cases hcast:b0p (a:=t') (b := .mp k e) x' with
   | none=>rw[hcast] at hp;cases hp
   | some xs =>
   rw[hcast] at hp;simp only[Option.bind_some] at hp;obtain ⟨he,hxs⟩:=a0v hcast;subst he;simp only at hxs;subst hxs;obtain ⟨_,L,hL,w,bs,rfl,g1,g2,g3,g4,g5⟩:=hr.blk n _ _ hn;obtain ⟨m1,m2,m3⟩:=g5 rfl;obtain ⟨bs',hbs'⟩:=g3 v0 hb1 hb2;have hvw:v=w:=h1.2.2 _ hbs';subst hvw;have hat:∀b∈bs,atName h E n b:=fun b hb=>⟨_,_,_,hn,hL,hb⟩
   cases hole with
   | none =>
    simp only[Option.some.injEq,Prod.mk.injEq] at hp;obtain ⟨rfl,rfl,rfl,rfl⟩:=hp;rw[a0j];exact ⟨bs,⟨v,rfl,m1⟩,⟨fun b hb=>⟨n,by simp,hat b hb⟩,m3,fun _=>m2⟩,h3,by simp[width]⟩
   | some jc =>
    obtain ⟨j,hc'⟩:=jc;dsimp only at hp;have hnt:noTk e=true:=by
     cases hn':noTk e with
     | true=>rfl
     | false=>rw[hn'] at hp;cases hp
    rw[hnt] at hp;simp only[cond_true] at hp;cases hq:b0b cx call h e [hc'] with
    | none=>rw[hq] at hp;cases hp
    | some y =>
     rw[hq] at hp;simp only[Option.bind_some] at hp;split at hp
     case h_2=>cases hp
     rename_i hnil;simp only[Option.some.injEq,Prod.mk.injEq] at hp;obtain ⟨rfl,rfl,rfl,rfl⟩:=hp;obtain ⟨b,es,clock,Os,e1,e2,e3,e4,rfl,e5⟩:=m1;rw[mset_eq];cases hj:xs[j]? with
     | none =>
      have hjl:xs.length≤j:=List.getElem?_eq_none_iff.1 hj;dsimp only;refine ⟨b::Os.flatten,⟨v,rfl,b,es,clock,Os,e1,e2,e3,e4,rfl,fun i (hi:i<xs.length) => ?_⟩,⟨fun c hcm=>⟨n,by simp,hat c hcm⟩,m3,fun _=>m2⟩,h3,by simp[width]⟩;obtain ⟨en',O',q1,q2,q3,q4⟩:=e5 i hi;dsimp only at q4;rw[if_neg (by omega)] at q4;exact ⟨en',O',q1,q2,q3,q4.1,q4.2.later e (a0z _) (fun _ _=>rfl)⟩
     | some p =>
     dsimp only;obtain ⟨hjl,hjx⟩:=List.getElem?_eq_some_iff.1 hj;obtain ⟨en,O0,f1,f2,f3,f4⟩:=e5 j hjl;dsimp only at f4;rw[if_pos rfl] at f4;obtain ⟨rfl,f5,f6⟩:=f4;obtain ⟨O,k1,k2,k3,k4⟩:=ih [hc'] y.1 y.2.1 y.2.2.1 y.2.2.2 hq D0 (fun p hp=>by rw[n0h e _ hnt] at hp;cases hp) _ f6;have hperm:=o0b Os j O f2;refine ⟨b::(Os.set j O).flatten,⟨v,rfl,b,es,clock,Os.set j O,e1,e2,by simpa using e3,by simpa using e4,rfl,fun i hi => ?_⟩,⟨fun c hcm => ?_,fun c hcm => ?_,fun hnd => ?_⟩,h3,by simp[width]⟩
     ·have hi':i<xs.length:=by simpa using hi
      obtain ⟨en',O',q1,q2,q3,q4⟩:=e5 i hi';by_cases hij:i=j
      ·subst hij;rw[f1] at q1;injection q1 with q1;subst q1;refine ⟨en,O,f1,by rw[List.getElem?_set];simp[e4,hi'],?_,?_⟩
       ·rw[List.getElem_set_self,←hjx];exact f3
       ·rw[List.getElem_set_self];exact ⟨f5,RdB.congr e (fun q hq=>by rw[one,Array.getElem?_toList]) k1⟩
      ·dsimp only at q4;rw[if_neg hij] at q4;refine ⟨en',O',q1,by rw[List.getElem?_set_ne (fun e=>hij e.symm)];exact q2,?_,?_⟩
       ·rw[List.getElem_set_ne (fun e=>hij e.symm)];exact q3
       ·rw[List.getElem_set_ne (fun e=>hij e.symm)];exact ⟨q4.1,q4.2.later e (a0z _) (fun _ _=>rfl)⟩
     ·rcases List.mem_cons.1 hcm with rfl | hcm
      ·exact ⟨n,by simp,hat c (by simp)⟩
      ·rcases List.mem_append.1 (hperm.mem_iff.1 hcm) with hcm | hcm
       ·obtain ⟨m,hm,k⟩:=k2.at_ c hcm;exact ⟨m,by simp[hm],k⟩
       ·exact ⟨n,by simp,hat c (List.mem_cons_of_mem _ hcm)⟩
     ·rcases List.mem_cons.1 hcm with rfl | hcm
      ·exact m3 c (by simp)
      ·rcases List.mem_append.1 (hperm.mem_iff.1 hcm) with hcm | hcm
       ·exact k2.free c hcm
       ·exact m3 c (List.mem_cons_of_mem _ hcm)
     ·rw[List.nodup_cons] at hnd m2 ⊢;have hdis':∀c∈O,c ∉ b::Os.flatten:=by
       intro c hcO hcb;obtain ⟨m,hm,hat'⟩:=k2.at_ c hcO;exact hnd.1 (b0h hr (hat c hcb) hat' ▸ hm)
      refine ⟨fun hb => ?_,?_⟩
      ·rcases List.mem_append.1 (hperm.mem_iff.1 hb) with hb | hb
       ·exact hdis' b hb (by simp)
       ·exact m2.1 hb
      ·rw[hperm.nodup_iff,List.nodup_append];exact ⟨k2.nodup hnd.2,m2.2,fun c hc1 d hd e=>hdis' c hc1 (List.mem_cons_of_mem _ (e ▸ hd))⟩
 | ls e ih =>
  intro cs x rest taken lent hp D hD vs hv;cases cs with
  | nil=>simp[b0b] at hp
  | cons c cs =>
   obtain ⟨v,r,rfl,h1,h2,h3⟩:=hv.uncons;simp only[b0b] at hp;split at hp
   case h_3=>cases hp
   ·obtain ⟨p,rfl⟩:=h1;simp only[Option.some.injEq,Prod.mk.injEq] at hp;obtain ⟨rfl,rfl,rfl,rfl⟩:=hp;exact ⟨[],⟨_,rfl,.inl ⟨rfl,rfl,p,rfl⟩⟩,Takes.nil,h3,by simp[width]⟩
   rename_i n v0;split at hp
   case h_2=>cases hp
   rename_i ver n' base top t' x' hole hn;split at hp
   case isFalse=>cases hp
   rename_i hcond;obtain ⟨rfl,hb1,hb2,rfl⟩:=hcond;cases hcast:b0p (a:=t') (b := .ls e) x' with
   | none=>rw[hcast] at hp;cases hp
   | some xs =>
   rw[hcast] at hp;simp only[Option.bind_some] at hp;obtain ⟨he,hxs⟩:=a0v hcast;subst he;simp only at hxs;subst hxs;obtain ⟨_,L,hL,w,bs,rfl,g1,g2,g3,g4,g5⟩:=hr.blk n _ _ hn;obtain ⟨m1,m2,m3⟩:=g5 rfl;obtain ⟨bs',hbs'⟩:=g3 v0 hb1 hb2;have hvw:v=w:=h1.2.2 _ hbs';subst hvw;have hat:∀b∈bs,atName h E n b:=fun b hb=>⟨_,_,_,hn,hL,hb⟩
   cases hole with
   | none =>
    simp only[Option.some.injEq,Prod.mk.injEq] at hp;obtain ⟨rfl,rfl,rfl,rfl⟩:=hp;rw[a0j];exact ⟨bs,⟨v,rfl,m1⟩,⟨fun b hb=>⟨n,by simp,hat b hb⟩,m3,fun _=>m2⟩,h3,by simp[width]⟩
   | some jc =>
    obtain ⟨j,hc'⟩:=jc;dsimp only at hp;have hnt:noTk e=true:=by
     cases hn':noTk e with
     | true=>rfl
     | false=>rw[hn'] at hp;cases hp
    rw[hnt] at hp;simp only[cond_true] at hp;cases hq:b0b cx call h e [hc'] with
    | none=>rw[hq] at hp;cases hp
    | some y =>
     rw[hq] at hp;simp only[Option.bind_some] at hp;split at hp
     case h_2=>cases hp
     rename_i hnil;simp only[Option.some.injEq,Prod.mk.injEq] at hp;obtain ⟨rfl,rfl,rfl,rfl⟩:=hp;rcases m1 with ⟨rfl,rfl,p,hp⟩ | ⟨b,arr,T,Os,e1,e2,e3,e4,e5,e6,rfl,e7⟩
     ·exact ⟨[],⟨v,rfl,.inl ⟨rfl,rfl,p,hp⟩⟩,⟨fun c q=>(by cases q),fun c q=>(by cases q),fun _=>List.nodup_nil⟩,h3,by simp[width]⟩
     by_cases hjl:xs.length≤j
     ·rw[List.set_eq_of_length_le hjl];refine ⟨b::Os.flatten,⟨v,rfl,.inr ⟨b,arr,T,Os,e1,e2,e3,e4,e5,e6,rfl,fun i (hi:i<xs.length) => ?_⟩⟩,⟨fun c hcm=>⟨n,by simp,hat c hcm⟩,m3,fun _=>m2⟩,h3,by simp[width]⟩;obtain ⟨u,O',q1,q2,q4⟩:=e7 i hi;dsimp only at q4;rw[if_neg (by omega)] at q4;exact ⟨u,O',q1,q2,q4.1,q4.2.later e (a0z _) (fun _ _=>rfl)⟩
     have hjl:j<xs.length:=by omega
     obtain ⟨u0,O0,f1,f2,f4⟩:=e7 j hjl;dsimp only at f4;rw[if_pos rfl] at f4;obtain ⟨rfl,f5,f6⟩:=f4;obtain ⟨O,k1,k2,k3,k4⟩:=ih [hc'] y.1 y.2.1 y.2.2.1 y.2.2.2 hq D0 (fun p hp=>by rw[n0h e _ hnt] at hp;cases hp) _ f6;have hperm:=o0b Os j O f2;refine ⟨b::(Os.set j O).flatten,⟨v,rfl,.inr ⟨b,arr,T,Os.set j O,by simpa using e1,e2,by simpa using e3,e4,e5,by simpa using e6,rfl,fun i hi => ?_⟩⟩,⟨fun c hcm => ?_,fun c hcm => ?_,fun hnd => ?_⟩,h3,by simp[width]⟩
     ·have hi':i<xs.length:=by simpa using hi
      obtain ⟨u,O',q1,q2,q4⟩:=e7 i hi';by_cases hij:i=j
      ·subst hij;refine ⟨u0,O,f1,by rw[List.getElem?_set];simp[e6,hi'],?_⟩;rw[List.getElem_set_self];exact ⟨f5,RdB.congr e (fun q hq=>by rw[one,Array.getElem?_toList]) k1⟩
      ·dsimp only at q4;rw[if_neg hij] at q4;refine ⟨u,O',q1,by rw[List.getElem?_set_ne (fun e=>hij e.symm)];exact q2,?_⟩;rw[List.getElem_set_ne (fun e=>hij e.symm)];exact ⟨q4.1,q4.2.later e (a0z _) (fun _ _=>rfl)⟩
     ·rcases List.mem_cons.1 hcm with rfl | hcm
      ·exact ⟨n,by simp,hat c (by simp)⟩
      ·rcases List.mem_append.1 (hperm.mem_iff.1 hcm) with hcm | hcm
       ·obtain ⟨m,hm,k⟩:=k2.at_ c hcm;exact ⟨m,by simp[hm],k⟩
       ·exact ⟨n,by simp,hat c (List.mem_cons_of_mem _ hcm)⟩
     ·rcases List.mem_cons.1 hcm with rfl | hcm
      ·exact m3 c (by simp)
      ·rcases List.mem_append.1 (hperm.mem_iff.1 hcm) with hcm | hcm
       ·exact k2.free c hcm
       ·exact m3 c (List.mem_cons_of_mem _ hcm)
     ·rw[List.nodup_cons] at hnd m2 ⊢;have hdis':∀c∈O,c ∉ b::Os.flatten:=by
       intro c hcO hcb;obtain ⟨m,hm,hat'⟩:=k2.at_ c hcO;exact hnd.1 (b0h hr (hat c hcb) hat' ▸ hm)
      refine ⟨fun hb => ?_,?_⟩
      ·rcases List.mem_append.1 (hperm.mem_iff.1 hb) with hb | hb
       ·exact hdis' b hb (by simp)
       ·exact m2.1 hb
      ·rw[hperm.nodup_iff,List.nodup_append];exact ⟨k2.nodup hnd.2,m2.2,fun c hc1 d hd e=>hdis' c hc1 (List.mem_cons_of_mem _ (e ▸ hd))⟩
 | _ =>
  intro cs x rest taken lent hp D hD vs hv;cases cs with
  | nil=>simp[b0b] at hp
  | cons c cs =>
   simp only[b0b] at hp;exact leafCase D _ (fun _ _ _ _ h=>h.toB) c cs x rest taken lent hp vs hv
theorem p0v (hc:CallSound cx call W F) (hr:HR cx.P W F E N h) {t:Ty} {cs:List Cell} {x:El t} {taken lent:List Nat}
  (hp:f0y cx call h t cs=some (x,taken,lent)) {D:Nat→Nat} (hD:(∀p∈g0y h t cs,E.m p.2 (a0h h p.2)=some (.box (D p.1)))) {vs:List Value} (hv:a0d cx.P W F E cs vs) :
  ∃O,RdB cx.P D t x W (a0g F h E lent) O (fun j=>vs[j]?)∧Takes F h E taken O∧vs.length=width t:=by
 unfold f0y at hp;cases h1:b0b cx call h t cs with
 | none=>rw[h1] at hp;cases hp
 | some y =>
  rw[h1] at hp;simp only[Option.bind_some] at hp;split at hp
  ·rename_i hnil;simp only[Option.some.injEq,Prod.mk.injEq] at hp;obtain ⟨rfl,hp⟩:=hp;obtain ⟨O,k1,k2,k3,k4⟩:=x0d hc hr t cs y.1 y.2.1 y.2.2.1 y.2.2.2 h1 D hD vs hv;rw[hp] at k1 k2;rw[hnil] at k3;have:=k3.1;simp at this;exact ⟨O,k1,k2,by omega⟩
  ·cases hp
end
end Go.Flat
end
section
namespace Go.Flat
open Go.RowKit (Below)
def a0t (h:Heap) (dm:Dm):(t:Ty)→El t→List Cell→Nat→List Cell×List (Nat×Nat×Blk)×Nat
 | .unit,_,_,nm=>([],[],nm)
 | .pair a b,x,old,nm =>
  let p:=a0t h dm a x.1 (old.take (width a)) nm
  let q:=a0t h dm b x.2 (old.drop (width a)) p.2.2
  (p.1++q.1,p.2.1++q.2.1,q.2.2)
 | .wrap e,x,old,nm=>a0t h dm e x old nm
 | .own e,x,old,nm =>
  match oldName old with
  | some n=>([.lall n (a0h h n+1)],[(n,a0h h n+1,.arr e x false)],nm)
  | none=>([.lall nm (a0h h nm+1)],[(nm,a0h h nm+1,.arr e x false)],nm+1)
 | .ref e,x,old,nm =>
  match oldName old with
  | some n=>let p:=a0t h dm e x [] nm;([.loc n (a0h h n+1) 0],(n,a0h h n+1,.box e p.1 false)::p.2.1,p.2.2)
  | none=>let p:=a0t h dm e x [] (nm+1);([.loc nm (a0h h nm+1) 0],(nm,a0h h nm+1,.box e p.1 false)::p.2.1,p.2.2)
 | .opt e,x,old,nm=>match x with | none=>([.np],[],nm) | some y=>a0t h dm e y old nm
 | .tk d,_,_,nm=>([.loc (dm.name d) (dm.ver d) 0],[],nm)
 | .tref d e,x,_,nm=>let p:=a0t h dm e x [] nm;([.loc (dm.name d) (dm.ver d) 0],(dm.name d,dm.ver d,.box e p.1 false)::p.2.1,p.2.2)
 | .row e,x,old,nm =>
  match oldName old with
  | some n=>([.lrow n (a0h h n+1)],[(n,a0h h n+1,.arr e x false)],nm)
  | none=>([.lrow nm (a0h h nm+1)],[(nm,a0h h nm+1,.arr e x false)],nm+1)
 | .seg e,x,old,nm =>
  match oldName old with
  | some n=>([.lsl n (a0h h n+1) x.2.1 x.2.2],[(n,a0h h n+1,.arr e x.1 false)],nm)
  | none=>([.lsl nm (a0h h nm+1) x.2.1 x.2.2],[(nm,a0h h nm+1,.arr e x.1 false)],nm+1)
 | .sb T e,x,old,nm =>
  match oldName old with
  | some n=>([.sl n (a0h h n+1)],[(n,a0h h n+1,.sealed n (a0h h n+1) (a0h h n+1) (.sb T e) x none false)],nm)
  | none=>([.sl nm (a0h h nm+1)],[(nm,a0h h nm+1,.sealed nm (a0h h nm+1) (a0h h nm+1) (.sb T e) x none false)],nm+1)
 | .seq e,x,old,nm =>
  match oldName old with
  | some n=>([.sl n (a0h h n+1)],[(n,a0h h n+1,.sealed n (a0h h n+1) (a0h h n+1) (.seq e) x none false)],nm)
  | none=>([.sl nm (a0h h nm+1)],[(nm,a0h h nm+1,.sealed nm (a0h h nm+1) (a0h h nm+1) (.seq e) x none false)],nm+1)
 | .mp kt e,x,old,nm =>
  match oldName old with
  | some n=>([.sl n (a0h h n+1)],[(n,a0h h n+1,.sealed n (a0h h n+1) (a0h h n+1) (.mp kt e) x none false)],nm)
  | none=>([.sl nm (a0h h nm+1)],[(nm,a0h h nm+1,.sealed nm (a0h h nm+1) (a0h h nm+1) (.mp kt e) x none false)],nm+1)
 | .ls e,x,old,nm =>
  match oldName old with
  | some n=>([.sl n (a0h h n+1)],[(n,a0h h n+1,.sealed n (a0h h n+1) (a0h h n+1) (.ls e) x none false)],nm)
  | none=>([.sl nm (a0h h nm+1)],[(nm,a0h h nm+1,.sealed nm (a0h h nm+1) (a0h h nm+1) (.ls e) x none false)],nm+1)
 | .err,x,_,nm=>(cells .err x,[],nm)
 | .bool,x,_,nm=>(cells .bool x,[],nm)
 | .int k,x,_,nm=>(cells (.int k) x,[],nm)
 | .str,x,_,nm=>(cells .str x,[],nm)
 | .slice e,x,_,nm=>(cells (.slice e) x,[],nm)
 | .ptr e,x,_,nm=>(cells (.ptr e) x,[],nm)
 | .fn a r,x,_,nm=>(cells (.fn a r) x,[],nm)
theorem b0n {R:Type} (h:Heap) (dm:Dm):∀(t:Ty) (x:El t) (old:List Cell) (nm:Nat) (k:List Cell→List (Nat×Nat×Blk)→Nat→Option R),
  b0v h dm t x old nm k=k (a0t h dm t x old nm).1 (a0t h dm t x old nm).2.1 (a0t h dm t x old nm).2.2:=by
 intro t;induction t with
 | pair a b iha ihb=>intro x old nm k;simp only[b0v,a0t,iha,ihb]
 | wrap e ih=>intro x old nm k;exact ih x old nm k
 | own e _=>intro x old nm k;simp only[b0v,a0t];cases oldName old<;>rfl
 | ref e ih=>intro x old nm k;simp only[b0v,a0t];cases oldName old<;>simp only[ih]
 | tref d e ih=>intro x old nm k;simp only[b0v,a0t,ih]
 | opt e ih=>intro x old nm k;cases x with
  | none=>rfl
  | some y=>exact ih y old nm k
 | row e _=>intro x old nm k;simp only[b0v,a0t];cases oldName old<;>rfl
 | seg e _=>intro x old nm k;simp only[b0v,a0t];cases oldName old<;>rfl
 | sb T e=>intro x old nm k;simp only[b0v,a0t];cases oldName old<;>rfl
 | mp kt e _ _=>intro x old nm k;simp only[b0v,a0t];cases oldName old<;>rfl
 | ls e _=>intro x old nm k;simp only[b0v,a0t];cases oldName old<;>rfl
 | seq e _=>intro x old nm k;simp only[b0v,a0t];cases oldName old<;>rfl
 | _=>intro x old nm k;rfl
def a0s (bs:List (Nat×Nat×Blk)):List Nat:=bs.map (·.1)
theorem n0o (h:Heap) (u v:List (Nat×Nat×Blk)):b0w h (u++v)=b0w (b0w h u) v:=by
 induction u generalizing h with
 | nil=>rfl
 | cons x r ih=>obtain ⟨n,ver,b⟩:=x;exact ih _
theorem j0m (bs:List (Nat×Nat×Blk)):∀h:Heap,(b0w h bs).length=h.length:=by
 induction bs with
 | nil=>intro h;rfl
 | cons x r ih=>intro h;obtain ⟨n,ver,b⟩:=x;simp[b0w,ih]
theorem s0j (bs:List (Nat×Nat×Blk)):∀(h:Heap) (n:Nat) (p:Nat×Option Blk),n ∉ a0s bs→b0w (h.set n p) bs=(b0w h bs).set n p:=by
 induction bs with
 | nil=>intro h n p _;rfl
 | cons x r ih =>
  intro h n p hn;obtain ⟨m,ver,b⟩:=x;simp only[a0s,List.map_cons,List.mem_cons,not_or] at hn;simp only[b0w];rw[List.set_comm _ _ hn.1,ih _ n p hn.2]
theorem s0i (bs:List (Nat×Nat×Blk)):∀h:Heap,a0u h (bs.map fun b=>(b.1,b.2.1,some b.2.2))=b0w h bs:=by
 induction bs with
 | nil=>intro h;rfl
 | cons x r ih=>intro h;obtain ⟨n,ver,b⟩:=x;exact ih _
section
variable {P:Program} {W W':World} {F F':Fz} {N:Nat→Prop}
structure Came (P:Program) (W:World) (F:Fz) (E:EnvM) (N:Nat→Prop) (h:Heap) (O:List Nat) (bs:List (Nat×Nat×Blk)) (E':EnvM):Prop where
 env:EnvLe E E'
 hr:HR P W F E' N (b0w h bs)
 tops:∀m,m ∉ a0s bs→E'.top m=E.top m
 at_:∀m b,atName (b0w h bs) E' m b→(m∈a0s bs∧b∈O)∨(m ∉ a0s bs∧atName h E m b)
theorem Came.nil {E:EnvM} {h:Heap} {O:List Nat} (hr:HR P W F E N h):Came P W F E N h O [] E :=
 ⟨EnvLe.refl E,hr,fun _ _=>rfl,fun m b hm => .inr ⟨by simp[a0s],hm⟩⟩
theorem Came.put {E E1:EnvM} {h:Heap} {O O':List Nat} {bs:List (Nat×Nat×Blk)} {n ver:Nat} {B:Blk} {L:Loc} (hc:Came P W F E N h O' bs E1) (hN:N n) (hlt:n<h.length) (hn:n ∉ a0s bs)
  (hver:ver=E.top n+1) (hB:f0e P W F (E1.next n (some L)) L B) (hO:∀b∈O',b∈O) (hL:∀x,L.has x→x∈O∧x ∉ O'∧¬a0p h E x) :
  Came P W F E N h O ((n,ver,B)::bs) (E1.next n (some L)):=by
 have htop:E1.top n=E.top n:=hc.tops n hn;have hput:HR P W F (E1.next n (some L)) N ((b0w h bs).set n (ver,some B)):=by
  refine hc.hr.put hN (EnvM.next_le _ _ _) (by rw[EnvM.next_top,hver,htop]) (fun m hm=>EnvM.next_other _ _ _ m hm) (Later.refl W F) (fun b _=>⟨rfl,fun h=>h⟩) ?_;intro B' hB';injection hB' with hB';subst hB';refine ⟨L,by rw[hver,←htop];exact EnvM.next_m _ _ _,hB,fun x hx => ?_⟩;obtain ⟨h1,h2,h3⟩:=hL x hx;rintro ⟨m,hm,hat⟩;rcases hc.at_ m x hat with ⟨_,k⟩ | ⟨_,k⟩
  ·exact h2 k
  ·exact h3 ⟨m,k⟩
 have hset:b0w h ((n,ver,B)::bs)=(b0w h bs).set n (ver,some B):=by
  simp only[b0w];exact s0j bs h n _ hn
 refine ⟨hc.env.trans (EnvM.next_le _ _ _),by rw[hset];exact hput,fun m hm => ?_,fun m b hat => ?_⟩
 ·simp only[a0s,List.map_cons,List.mem_cons,not_or] at hm;rw[EnvM.next_other _ _ _ m hm.1];exact hc.tops m hm.2
 ·rw[hset] at hat;by_cases e:m=n
  ·subst e;obtain ⟨v,B',L',h1,h2,h3⟩:=hat;rw[List.getElem?_set] at h1;simp[j0m,hlt] at h1;obtain ⟨rfl,rfl⟩:=h1;rw[hver,←htop,EnvM.next_m] at h2;injection h2 with h2;subst h2;exact .inl ⟨by simp[a0s],(hL b h3).1⟩
  ·have hat':atName (b0w h bs) E1 m b:=by
    obtain ⟨v,B',L',h1,h2,h3⟩:=hat;rw[List.getElem?_set_ne (fun q=>e q.symm)] at h1;exact (k0e (EnvM.next_le _ _ _) hc.hr).1 ⟨v,B',L',h1,h2,h3⟩
   rcases hc.at_ m b hat' with ⟨k1,k2⟩ | ⟨k1,k2⟩
   ·exact .inl ⟨by simp[a0s] at k1 ⊢;exact .inr k1,hO b k2⟩
   ·exact .inr ⟨by simp only[a0s,List.map_cons,List.mem_cons,not_or];exact ⟨e,k1⟩,k2⟩
theorem Came.stay {E E1:EnvM} {h:Heap} {O O':List Nat} {bs:List (Nat×Nat×Blk)} {n ver:Nat} {B:Blk} {L:Loc} (hc:Came P W F E N h O' bs E1) (hN:N n) (hlt:n<h.length) (hn:n ∉ a0s bs)
  (hver:ver=E.top n) (hLm:E.m n ver=some L) (hB:f0e P W F E1 L B) (hO:∀b∈O',b∈O) (hL:∀x,L.has x→x∈O∧x ∉ O'∧¬a0p h E x) :
  Came P W F E N h O ((n,ver,B)::bs) E1:=by
 have htop:E1.top n=E.top n:=hc.tops n hn;have hLm1:E1.m n ver=some L:=by rw[hc.env.m n ver (by omega)];exact hLm
 have hput:HR P W F E1 N ((b0w h bs).set n (ver,some B)):=by
  refine hc.hr.put hN (EnvLe.refl E1) (by rw[htop,hver]) (fun _ _=>rfl) (Later.refl W F) (fun b _=>⟨rfl,fun h=>h⟩) ?_;intro B' hB';injection hB' with hB';subst hB';refine ⟨L,hLm1,hB,fun x hx => ?_⟩;obtain ⟨h1,h2,h3⟩:=hL x hx;rintro ⟨m,hm,hat⟩;rcases hc.at_ m x hat with ⟨_,k⟩ | ⟨_,k⟩
  ·exact h2 k
  ·exact h3 ⟨m,k⟩
 have hset:b0w h ((n,ver,B)::bs)=(b0w h bs).set n (ver,some B):=by
  simp only[b0w];exact s0j bs h n _ hn
 refine ⟨hc.env,by rw[hset];exact hput,fun m hm => ?_,fun m b hat => ?_⟩
 ·simp only[a0s,List.map_cons,List.mem_cons,not_or] at hm;exact hc.tops m hm.2
 ·rw[hset] at hat;by_cases e:m=n
  ·subst e;obtain ⟨v,B',L',h1,h2,h3⟩:=hat;rw[List.getElem?_set] at h1;simp[j0m,hlt] at h1;obtain ⟨rfl,rfl⟩:=h1;rw[hLm1] at h2;injection h2 with h2;subst h2;exact .inl ⟨by simp[a0s],(hL b h3).1⟩
  ·have hat':atName (b0w h bs) E1 m b:=by
    obtain ⟨v,B',L',h1,h2,h3⟩:=hat;rw[List.getElem?_set_ne (fun q=>e q.symm)] at h1;exact ⟨v,B',L',h1,h2,h3⟩
   rcases hc.at_ m b hat' with ⟨k1,k2⟩ | ⟨k1,k2⟩
   ·exact .inl ⟨by simp[a0s] at k1 ⊢;exact .inr k1,hO b k2⟩
   ·exact .inr ⟨by simp only[a0s,List.map_cons,List.mem_cons,not_or];exact ⟨e,k1⟩,k2⟩
def DmAt (D:Nat→Nat) (dm:Dm) (h0:Heap) (E:EnvM) (t:Ty):Prop :=
 ∀d∈tkNs t,E.m (dm.name d) (dm.ver d)=some (.box (D d))∧dm.ver d=a0h h0 (dm.name d)∧dm.ver d≤E.top (dm.name d)
theorem DmAt.mono {D:Nat→Nat} {dm:Dm} {h0:Heap} {E E':EnvM} {t:Ty} (h:DmAt D dm h0 E t) (hE:EnvLe E E'):DmAt D dm h0 E' t:=by
 intro d hd;obtain ⟨h1,h2,h3⟩:=h d hd;exact ⟨by rw[hE.m _ _ h3];exact h1,h2,Nat.le_trans h3 (hE.top _)⟩
theorem DmAt.none {D:Nat→Nat} {dm:Dm} {h0:Heap} {E:EnvM} {t:Ty} (h:noTk t=true):DmAt D dm h0 E t:=by
 intro d hd;simp only[noTk,List.isEmpty_iff] at h;rw[h] at hd;cases hd
def d0c (P:Program) (W:World) (F:Fz) (E:EnvM) (t:Ty) (cs:List Cell) (g:Get):Prop :=
 ∃vs:List Value,vs.length=width t∧(∀j,j<width t→g j=vs[j]?)∧a0d P W F E cs vs
theorem f0q {D:Nat→Nat} (h0:Heap) (dm:Dm):∀(t:Ty) (x:El t) (old:List Cell) (nm:Nat) {E:EnvM} {h:Heap} {O:List Nat} {g:Get},HR P W F E N h→RdB P D t x W F O g→O.Nodup→(∀b∈O,¬F b)→(∀b∈O,¬a0p h E b) →
  (∀n∈a0s (a0t h0 dm t x old nm).2.1,N n∧n<h.length∧a0h h0 n=E.top n)→(a0s (a0t h0 dm t x old nm).2.1).Nodup→DmAt D dm h0 E t →
   ∃E',Came P W F E N h O (a0t h0 dm t x old nm).2.1 E'∧d0c P W F E' t (a0t h0 dm t x old nm).1 g:=by
 have leaf:∀(t:Ty) (x:El t) {E:EnvM} {h:Heap} {O:List Nat} {g:Get},HR P W F E N h→Rd P t x W F g→∃E',Came P W F E N h O [] E'∧d0c P W F E' t (cells t x) g :=
  fun t x {E h O g} hr hx=>⟨E,Came.nil hr,h0x t x g hx⟩
 intro t;induction t with
 | unit=>intro x old nm E h O g hr _ _ _ _ _ _ _;exact ⟨E,Came.nil hr,[],rfl,fun j hj=>by simp[width] at hj,a0d.nil⟩
 | pair a b iha ihb =>
  intro x old nm E h O g hr hx hO hF hL hN hnd hD;obtain ⟨O1,O2,rfl,h1,h2⟩:=hx;simp only[a0t,a0s,List.map_append,List.mem_append] at hN hnd;rw[List.nodup_append] at hO hnd;obtain ⟨E1,c1,us,u1,u2,u3⟩:=iha x.1 (old.take (width a)) nm hr h1 hO.1 (fun b hb=>hF b (by simp[hb])) (fun b hb=>hL b (by simp[hb])) (fun n hn=>hN n (.inl hn)) hnd.1 (fun d hd=>hD d (by simp[tkNs,hd]));have hlive:∀b∈O2,¬a0p (b0w h (a0t h0 dm a x.1 (old.take (width a)) nm).2.1) E1 b:=by
   rintro b hb ⟨m,hat⟩;rcases c1.at_ m b hat with ⟨_,k⟩ | ⟨_,k⟩
   ·exact hO.2.2 b k b hb rfl
   ·exact hL b (by simp[hb]) ⟨m,k⟩
  have hne:∀n,n∈a0s (a0t h0 dm b x.2 (old.drop (width a)) (a0t h0 dm a x.1 (old.take (width a)) nm).2.2).2.1→n ∉ a0s (a0t h0 dm a x.1 (old.take (width a)) nm).2.1 :=
   fun n hn hn'=>hnd.2.2 n hn' n hn rfl
  obtain ⟨E2,c2,vs,v1,v2,v3⟩:=ihb x.2 (old.drop (width a)) (a0t h0 dm a x.1 (old.take (width a)) nm).2.2 c1.hr h2 hO.2.1 (fun b hb=>hF b (by simp[hb])) hlive
   (fun n hn=>by
    obtain ⟨k1,k2,k3⟩:=hN n (.inr hn)
    exact ⟨k1,by rw[j0m];exact k2,by rw[c1.tops n (hne n hn)];exact k3⟩) hnd.2.1 (DmAt.mono (fun d hd=>hD d (by simp[tkNs,hd])) c1.env)
  refine ⟨E2,⟨c1.env.trans c2.env,by simp only[a0t];rw[n0o];exact c2.hr,fun m hm => ?_,fun m c hat => ?_⟩,us++vs,by simp[width,u1,v1],fun j hj => ?_,(u3.later (Later.refl W F) c2.env).append v3⟩
  ·simp only[a0t,a0s,List.map_append,List.mem_append,not_or] at hm;rw[c2.tops m hm.2,c1.tops m hm.1]
  ·simp only[a0t] at hat ⊢;rw[n0o] at hat;simp only[a0s,List.map_append,List.mem_append,not_or];rcases c2.at_ m c hat with ⟨k1,k2⟩ | ⟨k1,k2⟩
   ·exact .inl ⟨.inr k1,.inr k2⟩
   ·rcases c1.at_ m c k2 with ⟨q1,q2⟩ | ⟨q1,q2⟩
    ·exact .inl ⟨.inl q1,.inl q2⟩
    ·exact .inr ⟨⟨q1,k1⟩,q2⟩
  ·simp only[width] at hj;by_cases hj':j<width a
   ·rw[u2 j hj',List.getElem?_append_left (by omega)]
   ·rw[List.getElem?_append_right (by omega),u1];have:=v2 (j-width a) (by omega);rw[←this];show g j=g (width a+(j-width a));congr 1;omega
 | wrap e ih=>intro x old nm E h O g hr hx;exact ih x old nm hr hx
 | own e _ =>
  intro x old nm E h O g hr hx hO hF hL hN hnd hD;have key:∀n,N n→n<h.length→a0h h0 n=E.top n→∃E',Came P W F E N h O [(n,a0h h0 n+1,.arr e x false)] E'∧d0c P W F E' (.own e) [.lall n (a0h h0 n+1)] g:=by
   intro n hN hlt hver;rw[hver];have fin:∀(L:Loc) (v:Value),g 0=some v→v.oneCell'=true→f0e P W F (E.next n (some L)) L (.arr e x false)→(∀y,L.has y→y∈O)→c0w (.lall n (E.top n+1)) L v →
     ∃E',Came P W F E N h O [(n,E.top n+1,.arr e x false)] E'∧d0c P W F E' (.own e) [.lall n (E.top n+1)] g:=by
    intro L v hv h1 hB hLO hloc;refine ⟨E.next n (some L),(Came.nil (O:=[]) hr).put hN hlt (by simp[a0s]) rfl hB (by simp) (fun y hy=>⟨hLO y hy,by simp,hL y (hLO y hy)⟩),[v],rfl,fun j hj => ?_,a0d.one ⟨?_,⟨L,EnvM.next_m _ _ _⟩,fun L' hL' => ?_⟩ h1⟩
    ·have:j=0:=by simp[width] at hj;omega
     subst this;exact hv
    ·rw[EnvM.next_top];exact Nat.le_refl _
    ·rw[EnvM.next_m] at hL';injection hL' with hL';subst hL';exact hloc
   rcases hx with ⟨rfl,rfl,p,hp⟩ | ⟨b,cap,hp,hA,rfl⟩
   ·exact fin .nil _ hp rfl (.inl ⟨rfl,rfl⟩) (fun y hy=>by cases hy) ⟨p,rfl⟩
   ·exact fin (.arr b (width e) x.length cap) _ hp rfl (.inr ⟨b,cap,rfl,hA,fun _=>hF b (by simp),fun e=>by cases e⟩) (fun y hy=>by cases hy;simp) rfl
  simp only[a0t] at hN ⊢;cases hold:oldName old with
  | some n =>
   simp only[hold] at hN ⊢;obtain ⟨k1,k2,k3⟩:=hN n (by simp[a0s]);exact key n k1 k2 k3
  | none =>
   simp only[hold] at hN ⊢;obtain ⟨k1,k2,k3⟩:=hN nm (by simp[a0s]);exact key nm k1 k2 k3
 | ref e ih =>
  intro x old nm E h O g hr hx hO hF hL hN hnd hD;obtain ⟨b,arr,T,O',hp,hb,hsz,hone,rfl,hin⟩:=hx;rw[List.nodup_cons] at hO;have key:∀n nm',N n→n<h.length→a0h h0 n=E.top n→(∀m∈a0s (a0t h0 dm e x [] nm').2.1,N m∧m<h.length∧a0h h0 m=E.top m)→(a0s (a0t h0 dm e x [] nm').2.1).Nodup→n ∉ a0s (a0t h0 dm e x [] nm').2.1 →
    ∃E',Came P W F E N h (b::O') ((n,a0h h0 n+1,.box e (a0t h0 dm e x [] nm').1 false)::(a0t h0 dm e x [] nm').2.1) E'∧d0c P W F E' (.ref e) [.loc n (a0h h0 n+1) 0] g:=by
   intro n nm' hNn hlt hver hN' hnd' hne;rw[hver];obtain ⟨E1,c1,us,u1,u2,u3⟩:=ih x [] nm' hr hin hO.2 (fun b hb=>hF b (by simp[hb])) (fun b hb=>hL b (by simp[hb])) hN' hnd' hD;have hus:us=arr.toList:=by
    apply List.ext_getElem?;intro j;by_cases hj:j<width e
    ·rw[←u2 j hj,Array.getElem?_toList]
    ·rw[List.getElem?_eq_none (by omega),List.getElem?_eq_none (by simp;omega)]
   have htop:E1.top n=E.top n:=c1.tops n hne;have hlen:(a0t h0 dm e x [] nm').1.length=width e:=by rw[u3.1,u1]
   have c2:=c1.put (n:=n) (ver:=E.top n+1) (O:=b::O') (L := .box b) (B := .box e (a0t h0 dm e x [] nm').1 false) hNn hlt hne rfl
    ⟨b,arr,T,rfl,hb,by rw[←hus];exact u3.later (Later.refl W F) (EnvM.next_le _ _ _),hlen,fun _=>hF b (by simp),fun e=>by cases e⟩ (fun c hc=>by simp[hc])
    (fun y hy=>by cases hy;exact ⟨by simp,hO.1,hL b (by simp)⟩)
   refine ⟨_,c2,[.pointer (some ⟨b,0,none⟩)],rfl,fun j hj => ?_,a0d.one ⟨?_,⟨.box b,?_⟩,fun L' hL' => ?_⟩ rfl⟩
   ·have:j=0:=by simp[width] at hj;omega
    subst this;exact hp
   ·rw[EnvM.next_top,htop];exact Nat.le_refl _
   ·rw[←htop];exact EnvM.next_m _ _ _
   ·rw[←htop,EnvM.next_m] at hL';injection hL' with hL';subst hL';rfl
  simp only[a0t] at hN hnd ⊢;cases hold:oldName old with
  | some n =>
   simp only[hold,a0s,List.map_cons,List.mem_cons,List.nodup_cons] at hN hnd ⊢;obtain ⟨k1,k2,k3⟩:=hN n (.inl rfl);exact key n nm k1 k2 k3 (fun m hm=>hN m (.inr hm)) hnd.2 hnd.1
  | none =>
   simp only[hold,a0s,List.map_cons,List.mem_cons,List.nodup_cons] at hN hnd ⊢;obtain ⟨k1,k2,k3⟩:=hN nm (.inl rfl);exact key nm (nm+1) k1 k2 k3 (fun m hm=>hN m (.inr hm)) hnd.2 hnd.1
 | tk d =>
  intro x old nm E h O g hr hx hO hF hL hN hnd hD;obtain ⟨rfl,hp⟩:=hx;obtain ⟨h1,h2,h3⟩:=hD d (by simp[tkNs]);refine ⟨E,Came.nil hr,[.pointer (some ⟨D d,0,none⟩)],rfl,fun j hj => ?_,a0d.one ⟨h3,⟨.box (D d),h1⟩,fun L' hL' => ?_⟩ rfl⟩
  ·have:j=0:=by simp[width] at hj;omega
   subst this;exact hp
  ·rw[h1] at hL';injection hL' with hL';subst hL';rfl
 | tref d e ih =>
  intro x old nm E h O g hr hx hO hF hL hN hnd hD;obtain ⟨arr,T,O',hp,hb,hsz,hone,rfl,hin⟩:=hx;rw[List.nodup_cons] at hO;obtain ⟨h1,h2,h3⟩:=hD d (by simp[tkNs]);simp only[a0t,a0s,List.map_cons,List.mem_cons,List.nodup_cons] at hN hnd ⊢;obtain ⟨k1,k2,k3⟩:=hN _ (.inl rfl);obtain ⟨E1,c1,us,u1,u2,u3⟩:=ih x [] nm hr hin hO.2 (fun b hb=>hF b (by simp[hb])) (fun b hb=>hL b (by simp[hb])) (fun m hm=>hN m (.inr hm)) hnd.2 (fun m hm=>hD m (by simp[tkNs,hm]));have hus:us=arr.toList:=by
   apply List.ext_getElem?;intro j;by_cases hj:j<width e
   ·rw[←u2 j hj,Array.getElem?_toList]
   ·rw[List.getElem?_eq_none (by omega),List.getElem?_eq_none (by simp;omega)]
  have hlen:(a0t h0 dm e x [] nm).1.length=width e:=by rw[u3.1,u1]
  have c2:=c1.stay (n:=dm.name d) (ver:=dm.ver d) (O:=D d::O') (L := .box (D d)) (B := .box e (a0t h0 dm e x [] nm).1 false) k1 k2 hnd.1 (by rw[h2];exact k3) h1
   ⟨D d,arr,T,rfl,hb,by rw[←hus];exact u3,hlen,fun _=>hF _ (by simp),fun e=>by cases e⟩ (fun c hc=>by simp[hc])
   (fun y hy=>by cases hy;exact ⟨by simp,hO.1,hL _ (by simp)⟩)
  refine ⟨E1,c2,[.pointer (some ⟨D d,0,none⟩)],rfl,fun j hj => ?_,a0d.one ⟨Nat.le_trans h3 (c1.env.top _),⟨.box (D d),?_⟩,fun L' hL' => ?_⟩ rfl⟩
  ·have:j=0:=by simp[width] at hj;omega
   subst this;exact hp
  ·rw[c1.env.m _ _ h3];exact h1
  ·rw[c1.env.m _ _ h3,h1] at hL';injection hL' with hL';subst hL';rfl
 | opt e ih =>
  intro x old nm E h O g hr hx hO hF hL hN hnd hD;cases x with
  | none =>
   refine ⟨E,Came.nil hr,[.pointer none],rfl,fun j hj => ?_,a0d.one rfl rfl⟩;have:j=0:=by simp[width] at hj;omega
   subst this;exact hx.2
  | some y =>
   obtain ⟨E',c,vs,v1,v2,v3⟩:=ih y old nm hr hx.2 hO hF hL hN hnd hD;exact ⟨E',c,vs,by rw[v1,hx.1];rfl,fun j hj=>v2 j (by rw[hx.1];exact hj),v3⟩
 | row e _ =>
  intro x old nm E h O g hr hx hO hF hL hN hnd hD;obtain ⟨b,cap,hp,⟨hA,hcap⟩,rfl⟩:=hx;have key:∀n,N n→n<h.length→a0h h0 n=E.top n→∃E',Came P W F E N h [b] [(n,a0h h0 n+1,.arr e x false)] E'∧d0c P W F E' (.row e) [.lrow n (a0h h0 n+1)] g:=by
   intro n hN hlt hver;rw[hver];refine ⟨E.next n (some (.arr b (width e) x.length cap)),(Came.nil (O:=[]) hr).put hN hlt (by simp[a0s]) rfl (.inr ⟨b,cap,rfl,hA,fun _=>hF b (by simp),fun e=>by cases e⟩) (by simp) (fun y hy => ?_),[.pointer (some ⟨b,0,none⟩)],rfl,fun j hj => ?_,a0d.one ⟨?_,⟨_,EnvM.next_m _ _ _⟩,fun L' hL' => ?_⟩ rfl⟩
   ·cases hy;exact ⟨by simp,by simp,hL b (by simp)⟩
   ·have:j=0:=by simp[width] at hj;omega
    subst this;exact hp
   ·rw[EnvM.next_top];exact Nat.le_refl _
   ·rw[EnvM.next_m] at hL';injection hL' with hL';subst hL';exact ⟨rfl,hcap⟩
  simp only[a0t] at hN ⊢;cases hold:oldName old with
  | some n =>
   simp only[hold] at hN ⊢;obtain ⟨k1,k2,k3⟩:=hN n (by simp[a0s]);exact key n k1 k2 k3
  | none =>
   simp only[hold] at hN ⊢;obtain ⟨k1,k2,k3⟩:=hN nm (by simp[a0s]);exact key nm k1 k2 k3
 | seg e _ =>
  intro x old nm E h O g hr hx hO hF hL hN hnd hD;have key:∀n,N n→n<h.length→a0h h0 n=E.top n→∃E',Came P W F E N h O [(n,a0h h0 n+1,.arr e x.1 false)] E'∧d0c P W F E' (.seg e) [.lsl n (a0h h0 n+1) x.2.1 x.2.2] g:=by
   intro n hN hlt hver;rw[hver];have fin:∀(L:Loc) (v:Value),g 0=some v→v.oneCell'=true→f0e P W F (E.next n (some L)) L (.arr e x.1 false)→(∀y,L.has y→y∈O)→c0w (.lsl n (E.top n+1) x.2.1 x.2.2) L v →
     ∃E',Came P W F E N h O [(n,E.top n+1,.arr e x.1 false)] E'∧d0c P W F E' (.seg e) [.lsl n (E.top n+1) x.2.1 x.2.2] g:=by
    intro L v hv h1 hB hLO hloc;refine ⟨E.next n (some L),(Came.nil (O:=[]) hr).put hN hlt (by simp[a0s]) rfl hB (by simp) (fun y hy=>⟨hLO y hy,by simp,hL y (hLO y hy)⟩),[v],rfl,fun j hj => ?_,a0d.one ⟨?_,⟨L,EnvM.next_m _ _ _⟩,fun L' hL' => ?_⟩ h1⟩
    ·have:j=0:=by simp[width] at hj;omega
     subst this;exact hv
    ·rw[EnvM.next_top];exact Nat.le_refl _
    ·rw[EnvM.next_m] at hL';injection hL' with hL';subst hL';exact hloc
   rcases hx with ⟨h1,h2,rfl,p,hp⟩ | ⟨b,cap,o,c,hp,⟨hA,q1,q2,q3,q4⟩,rfl⟩
   ·refine fin .nil _ hp rfl (.inl ⟨rfl,h1⟩) (fun y hy=>by cases hy) ?_;rw[h2];exact ⟨⟨p,rfl⟩,rfl,rfl⟩
   ·exact fin (.arr b (width e) x.1.length cap) _ hp rfl (.inr ⟨b,cap,rfl,hA,fun _=>hF b (by simp),fun e=>by cases e⟩) (fun y hy=>by cases hy;simp) ⟨q1,o,c,rfl,q2,fun h0=>⟨q4 h0,q3⟩,q3⟩
  simp only[a0t] at hN ⊢;cases hold:oldName old with
  | some n =>
   simp only[hold] at hN ⊢;obtain ⟨k1,k2,k3⟩:=hN n (by simp[a0s]);exact key n k1 k2 k3
  | none =>
   simp only[hold] at hN ⊢;obtain ⟨k1,k2,k3⟩:=hN nm (by simp[a0s]);exact key nm k1 k2 k3
 | sb T e =>
  intro x old nm E h O g hr hx hO hF hL hN hnd hD;obtain ⟨v,hv,hsl⟩:=hx;have key:∀n,N n→n<h.length→a0h h0 n=E.top n→∃E',Came P W F E N h O [(n,a0h h0 n+1,.sealed n (a0h h0 n+1) (a0h h0 n+1) (.sb T e) x none false)] E'∧d0c P W F E' (.sb T e) [.sl n (a0h h0 n+1)] g:=by
   intro n hN hlt hver;rw[hver];refine ⟨E.next n (some (.tree v O)),(Came.nil (O:=[]) hr).put hN hlt (by simp[a0s]) rfl ⟨v,O,rfl,EnvM.next_m _ _ _,Nat.le_of_eq (EnvM.next_top _ _ _).symm,fun j hj hj' => ?_,hsl.lt,fun _=>⟨⟨rfl,hsl⟩,hO,hF⟩⟩ (by simp) (fun y hy=>⟨hy,by simp,hL y hy⟩),
    [v],rfl,fun j hj => ?_,a0d.one ⟨?_,⟨_,EnvM.next_m _ _ _⟩,fun L' hL' => ?_⟩ hsl.one⟩
   ·have:j=E.top n+1:=by omega
    subst this;exact ⟨O,EnvM.next_m _ _ _⟩
   ·have:j=0:=by simp[width] at hj;omega
    subst this;exact hv
   ·rw[EnvM.next_top];exact Nat.le_refl _
   ·rw[EnvM.next_m] at hL';injection hL' with hL';subst hL';rfl
  simp only[a0t] at hN ⊢;cases hold:oldName old with
  | some n =>
   simp only[hold] at hN ⊢;obtain ⟨k1,k2,k3⟩:=hN n (by simp[a0s]);exact key n k1 k2 k3
  | none =>
   simp only[hold] at hN ⊢;obtain ⟨k1,k2,k3⟩:=hN nm (by simp[a0s]);exact key nm k1 k2 k3
 | seq e _ =>
  intro x old nm E h O g hr hx hO hF hL hN hnd hD;obtain ⟨v,hv,hsl⟩:=hx;have key:∀n,N n→n<h.length→a0h h0 n=E.top n→∃E',Came P W F E N h O [(n,a0h h0 n+1,.sealed n (a0h h0 n+1) (a0h h0 n+1) (.seq e) x none false)] E'∧d0c P W F E' (.seq e) [.sl n (a0h h0 n+1)] g:=by
   intro n hN hlt hver;rw[hver];refine ⟨E.next n (some (.tree v O)),(Came.nil (O:=[]) hr).put hN hlt (by simp[a0s]) rfl ⟨v,O,rfl,EnvM.next_m _ _ _,Nat.le_of_eq (EnvM.next_top _ _ _).symm,fun j hj hj' => ?_,hsl.lt,fun _=>⟨⟨rfl,hsl⟩,hO,hF⟩⟩ (by simp) (fun y hy=>⟨hy,by simp,hL y hy⟩),
    [v],rfl,fun j hj => ?_,a0d.one ⟨?_,⟨_,EnvM.next_m _ _ _⟩,fun L' hL' => ?_⟩ hsl.one⟩
   ·have:j=E.top n+1:=by omega
    subst this;exact ⟨O,EnvM.next_m _ _ _⟩
   ·have:j=0:=by simp[width] at hj;omega
    subst this;exact hv
   ·rw[EnvM.next_top];exact Nat.le_refl _
   ·rw[EnvM.next_m] at hL';injection hL' with hL';subst hL';rfl
  simp only[a0t] at hN ⊢;cases hold:oldName old with
  | some n =>
   simp only[hold] at hN ⊢;obtain ⟨k1,k2,k3⟩:=hN n (by simp[a0s]);exact key n k1 k2 k3
  | none =>
   simp only[hold] at hN ⊢;obtain ⟨k1,k2,k3⟩:=hN nm (by simp[a0s]);exact key nm k1 k2 k3
 | mp kt e _ _ =>
  intro x old nm E h O g hr hx hO hF hL hN hnd hD;obtain ⟨v,hv,hsl⟩:=hx;have key:∀n,N n→n<h.length→a0h h0 n=E.top n→∃E',Came P W F E N h O [(n,a0h h0 n+1,.sealed n (a0h h0 n+1) (a0h h0 n+1) (.mp kt e) x none false)] E'∧d0c P W F E' (.mp kt e) [.sl n (a0h h0 n+1)] g:=by
   intro n hN hlt hver;rw[hver];refine ⟨E.next n (some (.tree v O)),(Came.nil (O:=[]) hr).put hN hlt (by simp[a0s]) rfl ⟨v,O,rfl,EnvM.next_m _ _ _,Nat.le_of_eq (EnvM.next_top _ _ _).symm,fun j hj hj' => ?_,hsl.lt (fun i y O' u k=>RdB.lt e k.2),fun _=>⟨by simp only[f0m];exact hsl,hO,hF⟩⟩ (by simp) (fun y hy=>⟨hy,by simp,hL y hy⟩),
    [v],rfl,fun j hj => ?_,a0d.one ⟨?_,⟨_,EnvM.next_m _ _ _⟩,fun L' hL' => ?_⟩ (o0g.one hsl)⟩
   ·have:j=E.top n+1:=by omega
    subst this;exact ⟨O,EnvM.next_m _ _ _⟩
   ·have:j=0:=by simp[width] at hj;omega
    subst this;exact hv
   ·rw[EnvM.next_top];exact Nat.le_refl _
   ·rw[EnvM.next_m] at hL';injection hL' with hL';subst hL';rfl
  simp only[a0t] at hN ⊢;cases hold:oldName old with
  | some n =>
   simp only[hold] at hN ⊢;obtain ⟨k1,k2,k3⟩:=hN n (by simp[a0s]);exact key n k1 k2 k3
  | none =>
   simp only[hold] at hN ⊢;obtain ⟨k1,k2,k3⟩:=hN nm (by simp[a0s]);exact key nm k1 k2 k3
 | ls e _ =>
  intro x old nm E h O g hr hx hO hF hL hN hnd hD;obtain ⟨v,hv,hsl⟩:=hx;have key:∀n,N n→n<h.length→a0h h0 n=E.top n→∃E',Came P W F E N h O [(n,a0h h0 n+1,.sealed n (a0h h0 n+1) (a0h h0 n+1) (.ls e) x none false)] E'∧d0c P W F E' (.ls e) [.sl n (a0h h0 n+1)] g:=by
   intro n hN hlt hver;rw[hver];refine ⟨E.next n (some (.tree v O)),(Came.nil (O:=[]) hr).put hN hlt (by simp[a0s]) rfl ⟨v,O,rfl,EnvM.next_m _ _ _,Nat.le_of_eq (EnvM.next_top _ _ _).symm,fun j hj hj' => ?_,hsl.lt (fun i y O' u k=>RdB.lt e k.2),fun _=>⟨by simp only[f0m];exact hsl,hO,hF⟩⟩ (by simp) (fun y hy=>⟨hy,by simp,hL y hy⟩),
    [v],rfl,fun j hj => ?_,a0d.one ⟨?_,⟨_,EnvM.next_m _ _ _⟩,fun L' hL' => ?_⟩ (LsRd.one hsl)⟩
   ·have:j=E.top n+1:=by omega
    subst this;exact ⟨O,EnvM.next_m _ _ _⟩
   ·have:j=0:=by simp[width] at hj;omega
    subst this;exact hv
   ·rw[EnvM.next_top];exact Nat.le_refl _
   ·rw[EnvM.next_m] at hL';injection hL' with hL';subst hL';rfl
  simp only[a0t] at hN ⊢;cases hold:oldName old with
  | some n =>
   simp only[hold] at hN ⊢;obtain ⟨k1,k2,k3⟩:=hN n (by simp[a0s]);exact key n k1 k2 k3
  | none =>
   simp only[hold] at hN ⊢;obtain ⟨k1,k2,k3⟩:=hN nm (by simp[a0s]);exact key nm k1 k2 k3
 | _=>intro x old nm E h O g hr hx _ _ _ _ _ _;exact leaf _ x hr hx.2
end
end Go.Flat
end
section
namespace Go.Flat
open Go.RowKit (Below)
section
variable {P:Program} {W W':World} {F F':Fz} {E E':EnvM} {h:Heap} {N:Nat→Prop}
theorem HR.ext {k:Heap} (hr:HR P W F E N h) (hk:∀n:Nat,k[n]? = h[n]?):HR P W F E N k:=by
 have:k=h:=List.ext_getElem? hk;rw[this];exact hr
theorem a0k (u:Ups):∀h:Heap,(a0u h u).length=h.length:=by
 induction u with
 | nil=>intro h;rfl
 | cons x r ih=>intro h;obtain ⟨n,ver,b⟩:=x;simp[a0u,ih]
theorem e1q (u:Ups):∀(h:Heap) (n:Nat) (p:Nat×Option Blk),n ∉ a0e u→a0u (h.set n p) u=(a0u h u).set n p:=by
 induction u with
 | nil=>intro h n p _;rfl
 | cons x r ih =>
  intro h n p hn;obtain ⟨m,ver,b⟩:=x;simp only[a0e,List.map_cons,List.mem_cons,not_or] at hn;simp only[a0u];rw[List.set_comm _ _ hn.1,ih _ n p hn.2]
theorem b0f (u:Ups):∀(h:Heap) (n:Nat),n ∉ a0e u→(a0u h u)[n]? = h[n]? := by
 induction u with
 | nil=>intro h n _;rfl
 | cons x r ih =>
  intro h n hn;obtain ⟨m,ver,b⟩:=x;simp only[a0e,List.map_cons,List.mem_cons,not_or] at hn;simp only[a0u];rw[ih _ n hn.2,List.getElem?_set_ne (fun e=>hn.1 e.symm)]
theorem f0u (u:Ups):∀(h k:Heap) (n:Nat),n∈a0e u→h.length=k.length→(a0u h u)[n]? = (a0u k u)[n]? := by
 induction u with
 | nil=>intro h k n hn;cases hn
 | cons x r ih =>
  intro h k n hn hl;obtain ⟨m,ver,b⟩:=x;simp only[a0u];by_cases hr:n∈a0e r
  ·exact ih _ _ n hr (by simp[hl])
  ·simp only[a0e,List.map_cons,List.mem_cons] at hn;have:n=m:=hn.resolve_right hr;subst this;rw[b0f r _ n hr,b0f r _ n hr,List.getElem?_set,List.getElem?_set];simp[hl]
structure CameU (P:Program) (W:World) (F:Fz) (E:EnvM) (N:Nat→Prop) (h:Heap) (O:List Nat) (u:Ups) (E':EnvM):Prop where
 env:EnvLe E E'
 hr:HR P W F E' N (a0u h u)
 tops:∀m,m ∉ a0e u→E'.top m=E.top m
 at_:∀m b,atName (a0u h u) E' m b→(m∈a0e u∧b∈O)∨(m ∉ a0e u∧atName h E m b)
theorem d0x (bs:List (Nat×Nat×Blk)):a0e (bs.map fun b=>(b.1,b.2.1,some b.2.2))=a0s bs:=by
 simp[a0e,a0s]
theorem Came.toU {O:List Nat} {bs:List (Nat×Nat×Blk)} (hc:Came P W F E N h O bs E'):CameU P W F E N h O (bs.map fun b=>(b.1,b.2.1,some b.2.2)) E':=by
 refine ⟨hc.env,by rw[s0i];exact hc.hr,by rw[d0x];exact hc.tops,fun m b hat => ?_⟩;rw[s0i] at hat;rw[d0x];exact hc.at_ m b hat
theorem CameU.append {E1 E2:EnvM} {O1 O2:List Nat} {u v:Ups} (h1:CameU P W F E N h O1 u E1) (h2:CameU P W F E1 N (a0u h u) O2 v E2):CameU P W F E N h (O1++O2) (u++v) E2:=by
 refine ⟨h1.env.trans h2.env,by rw[e0e];exact h2.hr,fun m hm => ?_,fun m b hat => ?_⟩
 ·simp only[a0e,List.map_append,List.mem_append,not_or] at hm;rw[h2.tops m hm.2,h1.tops m hm.1]
 ·rw[e0e] at hat;simp only[a0e,List.map_append,List.mem_append,not_or];rcases h2.at_ m b hat with ⟨k1,k2⟩ | ⟨k1,k2⟩
  ·exact .inl ⟨.inr k1,.inr k2⟩
  ·rcases h1.at_ m b k2 with ⟨q1,q2⟩ | ⟨q1,q2⟩
   ·exact .inl ⟨.inl q1,.inl q2⟩
   ·exact .inr ⟨⟨q1,k1⟩,q2⟩
theorem CameU.stay {E1:EnvM} {O O':List Nat} {u:Ups} {n ver:Nat} {B:Blk} {L:Loc} (hc:CameU P W F E N h O' u E1) (hN:N n) (hlt:n<h.length) (hn:n ∉ a0e u)
  (hver:ver=E.top n) (hLm:E.m n ver=some L) (hB:f0e P W F E1 L B) (hO:∀b∈O',b∈O) (hL:∀x,L.has x→x∈O∧x ∉ O'∧¬a0p h E x) :
  CameU P W F E N h O ((n,ver,some B)::u) E1:=by
 have htop:E1.top n=E.top n:=hc.tops n hn;have hLm1:E1.m n ver=some L:=by rw[hc.env.m n ver (by omega)];exact hLm
 have hput:HR P W F E1 N ((a0u h u).set n (ver,some B)):=by
  refine hc.hr.put hN (EnvLe.refl E1) (by rw[htop,hver]) (fun _ _=>rfl) (Later.refl W F) (fun b _=>⟨rfl,fun h=>h⟩) ?_;intro B' hB';injection hB' with hB';subst hB';refine ⟨L,hLm1,hB,fun x hx => ?_⟩;obtain ⟨h1,h2,h3⟩:=hL x hx;rintro ⟨m,hm,hat⟩;rcases hc.at_ m x hat with ⟨_,k⟩ | ⟨_,k⟩
  ·exact h2 k
  ·exact h3 ⟨m,k⟩
 have hset:a0u h ((n,ver,some B)::u)=(a0u h u).set n (ver,some B):=by
  simp only[a0u];exact e1q u h n _ hn
 refine ⟨hc.env,by rw[hset];exact hput,fun m hm => ?_,fun m b hat => ?_⟩
 ·simp only[a0e,List.map_cons,List.mem_cons,not_or] at hm;exact hc.tops m hm.2
 ·rw[hset] at hat;by_cases e:m=n
  ·subst e;obtain ⟨v,B',L',h1,h2,h3⟩:=hat;rw[List.getElem?_set] at h1;simp[a0k,hlt] at h1;obtain ⟨rfl,rfl⟩:=h1;rw[hLm1] at h2;injection h2 with h2;subst h2;exact .inl ⟨by simp[a0e],(hL b h3).1⟩
  ·have hat':atName (a0u h u) E1 m b:=by
    obtain ⟨v,B',L',h1,h2,h3⟩:=hat;rw[List.getElem?_set_ne (fun q=>e q.symm)] at h1;exact ⟨v,B',L',h1,h2,h3⟩
   rcases hc.at_ m b hat' with ⟨k1,k2⟩ | ⟨k1,k2⟩
   ·exact .inl ⟨by simp[a0e] at k1 ⊢;exact .inr k1,hO b k2⟩
   ·exact .inr ⟨by simp only[a0e,List.map_cons,List.mem_cons,not_or];exact ⟨e,k1⟩,k2⟩
variable {R:Type}
def x0e (h:Heap) (dm:Dm):(e:Ty×Option Cell)→El e.1→Nat→(List (Bool×List Cell)→Ups→Nat→Option R)→Option R
 | (t,none),x,nm,k=>b0v h dm t x [] nm fun cs bs nm=>k [(agg t,cs)] (bs.map fun b=>(b.1,b.2.1,some b.2.2)) nm
 | (t,some c),x,nm,k=>m0a.backK h dm t c x nm fun u nm=>k [] u nm
theorem t0a (h:Heap) (dm:Dm) (e:Ty×Option Cell) (x:El (tup [e.1])) (nm:Nat) (k:List (Bool×List Cell)→Ups→Option R) :
  m0a h dm [e] x nm k=x0e h dm e x nm fun vs u _=>k vs u:=by
 obtain ⟨t,oc⟩:=e;cases oc<;>rfl
theorem p0w (h:Heap) (dm:Dm) (e b:Ty×Option Cell) (r:List (Ty×Option Cell)) (x:El (tup ((e::b::r).map Prod.fst))) (nm:Nat) (k:List (Bool×List Cell)→Ups→Option R) :
  m0a h dm (e::b::r) x nm k=x0e h dm e x.1 nm fun vs u nm=>m0a h dm (b::r) x.2 nm fun vs' u'=>k (vs++vs') (u++u'):=by
 obtain ⟨t,oc⟩:=e;cases oc<;>rfl
def OutV (P:Program) (W:World) (F:Fz) (E:EnvM):List (Ty×Option Cell)→List (Bool×List Cell)→Get→Prop
 | [],vs,_=>vs=[]
 | (t,none)::r,vs,g=>∃cs vs',vs=(agg t,cs)::vs'∧d0c P W F E t cs g∧OutV P W F E r vs' (fun j=>g (width t+j))
 | (t,some _)::r,vs,g=>OutV P W F E r vs (fun j=>g (width t+j))
theorem OutV.mono (hE:EnvLe E E'):∀ {bt:List (Ty×Option Cell)} {vs:List (Bool×List Cell)} {g:Get},OutV P W F E bt vs g→OutV P W F E' bt vs g:=by
 intro bt;induction bt with
 | nil=>exact fun h=>h
 | cons e r ih =>
  intro vs g h;obtain ⟨t,oc⟩:=e;cases oc with
  | none =>
   obtain ⟨cs,vs',h1,⟨us,u1,u2,u3⟩,h3⟩:=h;exact ⟨cs,vs',h1,⟨us,u1,u2,u3.later (Later.refl W F) hE⟩,ih h3⟩
  | some c=>exact ih (by exact h)
def Loc.fits (h:Heap) (n:Nat) (p:Ty):Loc→Prop
 | .arr _ w len cap=>0<cap∧(∀e,p = .own e→w=width e)∧∀e v e' xs fr,p = .seg e→h[n]? = some (v,some (.arr e' xs fr))→w=width e'∧len=xs.length
 | .nil=>∀e v e' xs fr,p = .seg e→h[n]? = some (v,some (.arr e' xs fr))→xs=[]
 | _=>True
def backOf (t:Ty) (c:Cell) (n ver:Nat):Prop:=(∃e o,(t = .ref e∨∃d,t = .tref d e)∧c = .loc n ver o)∨(∃e,t = .own e∧c = .lall n ver)∨∃e o l,t = .seg e∧c = .lsl n ver o l
def d1l:Ty→Bool
 | .sb _ _=>true
 | .mp _ _=>true
 | _=>false
def p0n (E:EnvM) (h0:Heap) (t:Ty) (c:Cell) (g:Get):Prop :=
 ∀n v0 ver base u x ho fr,d1l t=true→c = .sl n v0→h0[n]? = some (ver,some (.sealed n base ver u x ho fr))→base≤v0→v0≤ver →
  ∃w,g 0=some w∧ver≤E.top n∧∀j,base≤j→j≤ver→∃bs,E.m n j=some (.tree w bs)
theorem p0n.mono {E E':EnvM} {h0:Heap} {t:Ty} {c:Cell} {g:Get} (hE:EnvLe E E') (h:p0n E h0 t c g):p0n E' h0 t c g:=by
 intro n v0 ver base u x ho fr h1 h2 h3 h4 h5;obtain ⟨w,k1,k2,k3⟩:=h n v0 ver base u x ho fr h1 h2 h3 h4 h5;exact ⟨w,k1,Nat.le_trans k2 (hE.top n),fun j hj hj'=>by rw[hE.m n j (Nat.le_trans hj' k2)];exact k3 j hj hj'⟩
def f0n (P:Program) (W:World) (F:Fz) (E:EnvM) (h0:Heap):List (Ty×Option Cell)→Get→Prop
 | [],_=>True
 | (t,none)::r,g=>f0n P W F E h0 r (fun j=>g (width t+j))
 | (t,some c)::r,g=>((∀n ver,backOf t c n ver→∃v,g 0=some v∧b0q P W F E c v∧a0h h0 n=ver∧∃L,E.m n ver=some L∧L.fits h0 n t)∧p0n E h0 t c g)∧f0n P W F E h0 r (fun j=>g (width t+j))
theorem f0n.mono {h0:Heap} (hE:EnvLe E E'):∀ {bt:List (Ty×Option Cell)} {g:Get},f0n P W F E h0 bt g→f0n P W F E' h0 bt g:=by
 intro bt;induction bt with
 | nil=>exact fun h=>h
 | cons e r ih =>
  intro g h;obtain ⟨t,oc⟩:=e;cases oc with
  | none=>exact ih (by exact h)
  | some c =>
   obtain ⟨⟨h1,h5⟩,h4⟩:=h;refine ⟨⟨fun n ver hc => ?_,h5.mono hE⟩,ih h4⟩;obtain ⟨v,k1,k2,k3⟩:=h1 n ver hc;obtain ⟨k3,L,k4,k5⟩:=k3;refine ⟨v,k1,k2.later (Later.refl W F) hE,k3,L,?_,k5⟩;rw[hE.m n ver ?_]
   ·exact k4
   ·rcases hc with ⟨e,o,_,rfl⟩ | ⟨e,_,rfl⟩ | ⟨e,o,l,_,rfl⟩<;>exact k2.1
theorem i1m {h0:Heap} {dm:Dm} {e:Ty×Option Cell} {x:El e.1} {nm:Nat} {k:List (Bool×List Cell)→Ups→Nat→Option R} {res:R} (hk:x0e h0 dm e x nm k=some res) :
  ∃vs u nm',k vs u nm'=some res∧∀ {D:Nat→Nat} {W:World} {F:Fz} {N:Nat→Prop} {E:EnvM} {h:Heap} {O:List Nat} {g:Get} {r:List (Ty×Option Cell)},HR P W F E N h→RdB P D e.1 x W F O g→O.Nodup→(∀b∈O,¬F b)→(∀b∈O,¬a0p h E b)→f0n P W F E h0 (e::r) g →
   (∀n∈a0e u,N n∧n<h.length∧a0h h0 n=E.top n)→(a0e u).Nodup→DmAt D dm h0 E e.1→∃E',CameU P W F E N h O u E'∧∀ {vs':List (Bool×List Cell)} {E2:EnvM},EnvLe E' E2→OutV P W F E2 r vs' (fun j=>g (width e.1+j))→OutV P W F E2 (e::r) (vs++vs') g:=by
 obtain ⟨t,oc⟩:=e;cases oc with
 | none =>
  simp only[x0e,b0n] at hk;refine ⟨_,_,_,hk,?_⟩;intro D W F N E h O g r hr hx hO hF hL hback hN hnd hD;rw[d0x] at hN hnd;obtain ⟨E',c,vs,v1,v2,v3⟩:=f0q h0 dm t x [] nm hr hx hO hF hL hN hnd hD;exact ⟨E',c.toU,fun {vs' E2} hE2 hrest=>⟨_,vs',rfl,⟨vs,v1,v2,v3.later (Later.refl W F) hE2⟩,hrest⟩⟩
 | some c =>
  simp only[x0e] at hk;unfold m0a.backK at hk;split at hk
  case h_7=>cases hk
  case h_6 =>
   rename_i nm _ _ _ _ _ kt e n v0 x;split at hk
   case h_2=>cases hk
   rename_i ver n' base top t' x' ho fr hn;split at hk
   case isFalse=>cases hk
   rename_i hcond;obtain ⟨rfl,hb1,hb2,rfl⟩:=hcond;refine ⟨_,_,_,hk,?_⟩;intro D W F N E h O g r hr hx hO hF hL hback hN hnd hD;obtain ⟨hb0,hrest⟩:=hback;obtain ⟨w,hw,htop,hheads⟩:=hb0.2 n v0 _ base t' x' ho fr rfl rfl hn hb1 hb2;obtain ⟨v,hv,hsl⟩:=hx;rw[hv] at hw;injection hw with hw;subst hw;obtain ⟨k1,k2,k3⟩:=hN n (by simp[a0e]);rw[g0h hn] at k3;have c2:=(Came.nil (O:=[]) hr).put (n:=n) (ver:=top+1) (O:=O) (L := .tree v O) (B := .sealed n base (top+1) (.mp kt e) x none false) k1 k2 (by simp[a0s]) (by rw[k3])
    ⟨v,O,rfl,by rw[k3];exact EnvM.next_m _ _ _,by rw[EnvM.next_top,k3];exact Nat.le_refl _,fun j hj hj'=>by
     rcases Nat.lt_or_ge (E.top n) j with q | q
     ·have:j=E.top n+1:=by omega
      subst this;exact ⟨O,EnvM.next_m _ _ _⟩
     ·rw[(EnvM.next_le E n (some (.tree v O))).m n j q];exact hheads j hj (by omega),o0g.lt hsl (fun i y O' u k=>RdB.lt e k.2),fun _=>⟨by simp only[f0m];exact hsl,hO,hF⟩⟩ (by simp) (fun y hy=>⟨hy,by simp,hL y hy⟩)
   exact ⟨_,c2.toU,fun {vs' E2} _ hr=>by exact hr⟩
  case h_5 =>
   rename_i nm _ _ _ _ _ T e n v0 x;split at hk
   case h_2=>cases hk
   rename_i ver n' base top t' x' ho fr hn;split at hk
   case isFalse=>cases hk
   rename_i hcond;obtain ⟨rfl,hb1,hb2,rfl⟩:=hcond;refine ⟨_,_,_,hk,?_⟩;intro D W F N E h O g r hr hx hO hF hL hback hN hnd hD;obtain ⟨hb0,hrest⟩:=hback;obtain ⟨w,hw,htop,hheads⟩:=hb0.2 n v0 _ base t' x' ho fr rfl rfl hn hb1 hb2;obtain ⟨v,hv,hsl⟩:=hx;rw[hv] at hw;injection hw with hw;subst hw;obtain ⟨k1,k2,k3⟩:=hN n (by simp[a0e]);rw[g0h hn] at k3;have c2:=(Came.nil (O:=[]) hr).put (n:=n) (ver:=top+1) (O:=O) (L := .tree v O) (B := .sealed n base (top+1) (.sb T e) x none false) k1 k2 (by simp[a0s]) (by rw[k3])
    ⟨v,O,rfl,by rw[k3];exact EnvM.next_m _ _ _,by rw[EnvM.next_top,k3];exact Nat.le_refl _,fun j hj hj'=>by
     rcases Nat.lt_or_ge (E.top n) j with q | q
     ·have:j=E.top n+1:=by omega
      subst this;exact ⟨O,EnvM.next_m _ _ _⟩
     ·rw[(EnvM.next_le E n (some (.tree v O))).m n j q];exact hheads j hj (by omega),hsl.lt,fun _=>⟨⟨rfl,hsl⟩,hO,hF⟩⟩ (by simp) (fun y hy=>⟨hy,by simp,hL y hy⟩)
   exact ⟨_,c2.toU,fun {vs' E2} _ hr=>by exact hr⟩
  case h_4 =>
   rename_i nm _ _ _ _ _ e n ver off len x;split at hk
   case h_2=>cases hk
   rename_i ver0 e' xs fr hn;split at hk
   case isFalse=>cases hk
   rename_i he;subst he;obtain ⟨hmust,hk⟩:=a0l hk;simp only[Bool.and_eq_true,decide_eq_true_eq] at hmust;obtain ⟨hlen,hoff,hpos⟩:=hmust;refine ⟨_,_,_,hk,?_⟩;intro D W F N E h O g r hr hx hO hF hL hback hN hnd hD;obtain ⟨hb0,hrest⟩:=hback;obtain ⟨v,hv,hc,hver,L,hL1,hfit⟩:=hb0.1 n ver (.inr (.inr ⟨_,off,len,rfl,rfl⟩));have hloc:=hc.2.2 L hL1;obtain ⟨k1,k2,k3⟩:=hN n (by simp[a0e]);have hblk:f0e P W F E L (.arr e' x.1 false)∧∀y,L.has y→y∈O:=by
    cases L with
    | box b'=>exact hloc.elim
    | tree w' bs'=>exact hloc.elim
    | nil =>
     have:=hfit _ _ _ _ _ rfl hn;rw[this] at hpos;exact absurd hpos (by simp)
    | arr b' w l c =>
     obtain ⟨_,_,hfit⟩:=hfit;obtain ⟨f1,f2⟩:=hfit _ _ _ _ _ rfl hn;obtain ⟨_,o,c1,hv1,_,_,hoe⟩:=hloc;rcases hx with ⟨h1,_⟩ | ⟨b,cap,o2,c2,hp,⟨hA,_,_,q3,_⟩,rfl⟩
     ·rw[h1] at hlen;simp only[List.length_nil] at hlen;omega
     ·rw[hp,hv1] at hv;simp only[Option.some.injEq,Value.slice.injEq,Addr.mk.injEq,and_true] at hv;obtain ⟨⟨hb,_⟩,_,hcc⟩:=hv;have hcap:cap=c:=by omega
      subst hb;subst hcap;rw[f1,f2,←hlen];exact ⟨.inr ⟨_,_,rfl,hA,fun _=>hF _ (by simp),fun e=>by cases e⟩,fun y hy=>by cases hy;simp⟩
   have c0:CameU P W F E N h [] [] E:=⟨EnvLe.refl E,hr,fun _ _=>rfl,fun m b hm => .inr ⟨by simp[a0e],hm⟩⟩;have c2:=c0.stay (n:=n) (ver:=ver) (O:=O) (L:=L) (B := .arr e' x.1 false) k1 k2 (by simp[a0e]) (by omega) hL1 hblk.1 (fun c hc=>by cases hc)
    (fun y hy=>⟨hblk.2 y hy,by simp,hL y (hblk.2 y hy)⟩)
   exact ⟨E,c2,fun {vs' E2} _ hr=>by exact hr⟩
  case h_3 =>
   rename_i nm _ _ _ _ _ e n ver x;refine ⟨_,_,_,hk,?_⟩;intro D W F N E h O g r hr hx hO hF hL hback hN hnd hD;obtain ⟨hb0,hrest⟩:=hback;obtain ⟨v,hv,hc,hver,L,hL1,hfit⟩:=hb0.1 n ver (.inr (.inl ⟨e,rfl,rfl⟩));have hloc:=hc.2.2 L hL1;obtain ⟨k1,k2,k3⟩:=hN n (by simp[a0e]);have hblk:f0e P W F E L (.arr e x false)∧∀y,L.has y→y∈O:=by
    rcases hx with ⟨rfl,rfl,p,hp⟩ | ⟨b,cap,hp,hA,rfl⟩
    ·rw[hp] at hv;injection hv with hv;subst hv;cases L with
     | box b'=>exact hloc.elim
     | tree w' bs'=>exact hloc.elim
     | nil=>exact ⟨.inl ⟨rfl,rfl⟩,fun y hy=>by cases hy⟩
     | arr b' w l c =>
      have h0:=hfit.1;simp only[c0w,Value.slice.injEq] at hloc;omega
    ·rw[hp] at hv;injection hv with hv;subst hv;have hpos:0<cap:=by obtain ⟨cs,T,_,_,_,hc,_⟩:=hA;exact hc.2
     cases L with
     | box b'=>exact hloc.elim
     | tree w' bs'=>exact hloc.elim
     | nil =>
      obtain ⟨a,ha⟩:=hloc;simp only[Value.slice.injEq] at ha;omega
     | arr b' w l c =>
      simp only[c0w,Value.slice.injEq,Option.some.injEq,Addr.mk.injEq,and_true] at hloc;obtain ⟨q1,q2,q3⟩:=hloc;have hw:=hfit.2.1 e rfl;subst q1;subst q3;subst hw;rw[←q2];exact ⟨.inr ⟨b,cap,rfl,hA,fun _=>hF b (by simp),fun e=>by cases e⟩,fun y hy=>by cases hy;simp⟩
   have c0:CameU P W F E N h [] [] E:=⟨EnvLe.refl E,hr,fun _ _=>rfl,fun m b hm => .inr ⟨by simp[a0e],hm⟩⟩;have c2:=c0.stay (n:=n) (ver:=ver) (O:=O) (L:=L) (B := .arr e x false) k1 k2 (by simp[a0e]) (by omega) hL1 hblk.1 (fun c hc=>by cases hc)
    (fun y hy=>⟨hblk.2 y hy,by simp,hL y (hblk.2 y hy)⟩)
   exact ⟨E,c2,fun {vs' E2} _ hr=>by exact hr⟩
  case h_1 =>
   rename_i nm _ _ _ _ _ d e n ver off x;obtain ⟨hname,hk⟩:=a0l hk;rw[b0n] at hk;refine ⟨_,_,_,hk,?_⟩;intro D W F N E h O g r hr hx hO hF hL hback hN hnd hD;obtain ⟨arr,T,O',hp,hb,hsz,hone,rfl,hin⟩:=hx;obtain ⟨hb0,hrest⟩:=hback;obtain ⟨v,hv,hc,hver,_⟩:=hb0.1 n ver (.inl ⟨e,off,.inr ⟨d,rfl⟩,rfl⟩);rw[hp] at hv;injection hv with hv;subst hv;obtain ⟨g1,⟨L,hL1⟩,g3⟩:=hc;have hloc:=g3 L hL1;have hLb:L = .box (D d):=by
    cases L with
    | box b' =>
     simp only[c0w,Value.pointer.injEq,Option.some.injEq,Addr.mk.injEq,and_true] at hloc;rw[hloc.1]
    | tree w' bs'=>exact hloc.elim
    | nil=>exact hloc.elim
    | arr b' w l c=>exact hloc.elim
   subst hLb;simp only[a0e,List.map_cons,List.mem_cons,List.nodup_cons] at hN hnd;have hun:=d0x (a0t h0 dm e x [] nm).2.1;simp only[a0e] at hun;rw[hun] at hN hnd;rw[List.nodup_cons] at hO;obtain ⟨k1,k2,k3⟩:=hN n (.inl rfl);obtain ⟨E1,c1,us,u1,u2,u3⟩:=f0q h0 dm e x [] nm hr hin hO.2 (fun b hb=>hF b (by simp[hb])) (fun b hb=>hL b (by simp[hb])) (fun m hm=>hN m (.inr hm)) hnd.2 (fun m hm=>hD m (by simp[tkNs,hm]));have hus:us=arr.toList:=by
    apply List.ext_getElem?;intro j;by_cases hj:j<width e
    ·rw[←u2 j hj,Array.getElem?_toList]
    ·rw[List.getElem?_eq_none (by omega),List.getElem?_eq_none (by simp;omega)]
   have hlen:(a0t h0 dm e x [] nm).1.length=width e:=by rw[u3.1,u1]
   have c2:=c1.toU.stay (n:=n) (ver:=ver) (O:=D d::O') (L := .box (D d)) (B := .box e (a0t h0 dm e x [] nm).1 false) k1 k2 (by rw[d0x];exact hnd.1) (by omega) hL1
    ⟨D d,arr,T,rfl,hb,by rw[←hus];exact u3,hlen,fun _=>hF _ (by simp),fun e=>by cases e⟩ (fun c hc=>by simp[hc])
    (fun y hy=>by cases hy;exact ⟨by simp,hO.1,hL _ (by simp)⟩)
   exact ⟨E1,c2,fun {vs' E2} _ hr=>by exact hr⟩
  rename_i nm _ _ _ _ _ e n ver off x;rw[b0n] at hk;refine ⟨_,_,_,hk,?_⟩;intro D W F N E h O g r hr hx hO hF hL hback hN hnd hD;obtain ⟨b,arr,T,O',hp,hb,hsz,hone,rfl,hin⟩:=hx;obtain ⟨hb0,hrest⟩:=hback;obtain ⟨v,hv,hc,hver,_⟩:=hb0.1 n ver (.inl ⟨e,off,.inl rfl,rfl⟩);rw[hp] at hv;injection hv with hv;subst hv;obtain ⟨g1,⟨L,hL1⟩,g3⟩:=hc;have hloc:=g3 L hL1;have hLb:L = .box b:=by
   cases L with
   | box b' =>
    simp only[c0w,Value.pointer.injEq,Option.some.injEq,Addr.mk.injEq,and_true] at hloc;rw[hloc.1]
   | tree w' bs'=>exact hloc.elim
   | nil=>exact hloc.elim
   | arr b' w l c=>exact hloc.elim
  subst hLb;simp only[a0e,List.map_cons,List.mem_cons,List.nodup_cons] at hN hnd;have hun:=d0x (a0t h0 dm e x (l0b h0 n) nm).2.1;simp only[a0e] at hun;rw[hun] at hN hnd;rw[List.nodup_cons] at hO;obtain ⟨k1,k2,k3⟩:=hN n (.inl rfl);obtain ⟨E1,c1,us,u1,u2,u3⟩:=f0q h0 dm e x (l0b h0 n) nm hr hin hO.2 (fun b hb=>hF b (by simp[hb])) (fun b hb=>hL b (by simp[hb])) (fun m hm=>hN m (.inr hm)) hnd.2 hD;have hus:us=arr.toList:=by
   apply List.ext_getElem?;intro j;by_cases hj:j<width e
   ·rw[←u2 j hj,Array.getElem?_toList]
   ·rw[List.getElem?_eq_none (by omega),List.getElem?_eq_none (by simp;omega)]
  have hlen:(a0t h0 dm e x (l0b h0 n) nm).1.length=width e:=by rw[u3.1,u1]
  have c2:=c1.toU.stay (n:=n) (ver:=ver) (O:=b::O') (L := .box b) (B := .box e (a0t h0 dm e x (l0b h0 n) nm).1 false) k1 k2 (by rw[d0x];exact hnd.1) (by omega) hL1
   ⟨b,arr,T,rfl,hb,by rw[←hus];exact u3,hlen,fun _=>hF b (by simp),fun e=>by cases e⟩ (fun c hc=>by simp[hc])
   (fun y hy=>by cases hy;exact ⟨by simp,hO.1,hL b (by simp)⟩)
  exact ⟨E1,c2,fun {vs' E2} _ hr=>by exact hr⟩
theorem outs_rd (h0:Heap) (dm:Dm):∀(bt:List (Ty×Option Cell)) (y:El (tup (bt.map Prod.fst))) (nm:Nat) (k:List (Bool×List Cell)→Ups→Option R) (res:R),m0a h0 dm bt y nm k=some res →
  ∃vs u,k vs u=some res∧∀ {D:Nat→Nat} {W:World} {F:Fz} {N:Nat→Prop} {E:EnvM} {h:Heap} {O:List Nat} {g:Get},HR P W F E N h→RdB P D (tup (bt.map Prod.fst)) y W F O g→O.Nodup→(∀b∈O,¬F b)→(∀b∈O,¬a0p h E b)→f0n P W F E h0 bt g →
   (∀n∈a0e u,N n∧n<h.length∧a0h h0 n=E.top n)→(a0e u).Nodup→(∀e∈bt,DmAt D dm h0 E e.1)→∃E',CameU P W F E N h O u E'∧OutV P W F E' bt vs g:=by
 intro bt;induction bt with
 | nil =>
  intro y nm k res hk;refine ⟨[],[],hk,?_⟩;intro D W F N E h O g hr hx _ _ _ _ _ _ _;exact ⟨E,⟨EnvLe.refl E,hr,fun _ _=>rfl,fun m b hm => .inr ⟨by simp[a0e],hm⟩⟩,rfl⟩
 | cons e r ih =>
  intro y nm k res hk;cases r with
  | nil =>
   rw[t0a] at hk;obtain ⟨vs,u,nm',h1,h2⟩:=i1m (P:=P) hk;refine ⟨vs,u,h1,?_⟩;intro D W F N E h O g hr hx hO hF hL hback hN hnd hD;obtain ⟨E',c,ho⟩:=h2 (r:=[]) hr hx hO hF hL hback hN hnd (hD e (by simp));exact ⟨E',c,by have:=ho (vs':=[]) (EnvLe.refl E') rfl;rwa [List.append_nil] at this⟩
  | cons e2 r =>
   rw[p0w] at hk;obtain ⟨vs,u,nm',h1,h2⟩:=i1m (P:=P) hk;obtain ⟨vs2,u2,h3,h4⟩:=ih y.2 nm' _ res h1;refine ⟨vs++vs2,u++u2,h3,?_⟩;intro D W F N E h O g hr hx hO hF hL hback hN hnd hD;obtain ⟨O1,O2,rfl,x1,x2⟩:=hx;rw[List.nodup_append] at hO;simp only[a0e,List.map_append,List.mem_append] at hN hnd;rw[List.nodup_append] at hnd;obtain ⟨E1,c1,ho1⟩:=h2 (r:=e2::r) hr x1 hO.1 (fun b hb=>hF b (by simp[hb])) (fun b hb=>hL b (by simp[hb])) hback (fun n hn=>hN n (.inl hn)) hnd.1 (hD e (by simp));have hlive:∀b∈O2,¬a0p (a0u h u) E1 b:=by
    rintro b hb ⟨m,hat⟩;rcases c1.at_ m b hat with ⟨_,k⟩ | ⟨_,k⟩
    ·exact hO.2.2 b k b hb rfl
    ·exact hL b (by simp[hb]) ⟨m,k⟩
   have hback2:f0n P W F E1 h0 (e2::r) (fun j=>g (width e.1+j)):=by
    obtain ⟨t,oc⟩:=e;cases oc with
    | none=>exact f0n.mono c1.env (by exact hback)
    | some c=>exact f0n.mono c1.env hback.2
   obtain ⟨E2,c2,ho2⟩:=h4 c1.hr x2 hO.2.1 (fun b hb=>hF b (by simp[hb])) hlive hback2
    (fun n hn=>by
     obtain ⟨k1,k2,k3⟩:=hN n (.inr hn)
     exact ⟨k1,by rw[a0k];exact k2,by rw[c1.tops n (fun hn'=>hnd.2.2 n hn' n hn rfl)];exact k3⟩) hnd.2.1 (fun e' he'=>(hD e' (by simp only[List.mem_cons] at he' ⊢;exact .inr he')).mono c1.env)
   exact ⟨E2,c1.append c2,ho1 c2.env ho2⟩
end
end Go.Flat
end
section
namespace Go.Flat
open Go.RowKit (Below)
def cat (vs:List Value):Get:=fun j=>(vs.flatMap fun v=>v.cells.toList)[j]?
def b0s:List Ty→List Value→Prop
 | [],[]=>True
 | t::ts,v::vs=>formed t v∧b0s ts vs
 | _,_=>False
theorem b0s.length:∀ {ts:List Ty} {vs:List Value},b0s ts vs→vs.length=ts.length:=by
 intro ts;induction ts with
 | nil=>intro vs h;cases vs with
  | nil=>rfl
  | cons=>exact h.elim
 | cons t ts ih=>intro vs h;cases vs with
  | nil=>exact h.elim
  | cons v vs=>simp[ih h.2]
theorem e0l {t:Ty} {v:Value} {vs:List Value} (h:v.cells.size=width t):∀j,j<width t→cat (v::vs) j=one v j:=by
 intro j hj;simp only[cat,one,List.flatMap_cons];rw[List.getElem?_append_left (by simp;omega),Array.getElem?_toList]
theorem f0l {t:Ty} {v:Value} {vs:List Value} (h:v.cells.size=width t):(fun j=>cat (v::vs) (width t+j))=cat vs:=by
 funext j;simp only[cat,List.flatMap_cons];rw[List.getElem?_append_right (by simp;omega)];congr 1;simp;omega
structure Move (W:World) (F:Fz) (O:List Nat) (W':World) (F':Fz):Prop where
 later:Later W F W' F'
 frame:∀b,b<W.heap.size→b ∉ O→W'.heap[b]? = W.heap[b]?
 fz:∀b,F' b→F b∨b∈O∨(W.heap.size≤b∧b<W'.heap.size)
def q0s (ws:List Value):Value:=if ws.length=1 then ws.headD .nilFunc else .tuple ws.toArray
def Ret (P:Program) (D:Nat→Nat) (W:World) (O:List Nat) (s:Sig) (args:List Value) (t:Ty) (y:El t) (W':World) (F':Fz) (v:Value):Prop :=
 ∃ws O',b0s s.rs ws∧v=q0s ws∧RdB P D t y W' F' O' (cat (ws++s.back.filterMap (args[·]?)))∧O'.Nodup∧(∀b∈O',¬F' b)∧(∀b∈O',b∈O∨W.heap.size≤b)
def FnOk (cx:Cx) (call:Oracle cx):Prop :=
 ∀f s,cx.sig f=some s→∀(x:El (cx.arg f)) (y:El (cx.out f)),call f x=some y→∀D W F O vs,GlobOk cx W F→(∀b,F b→b<W.heap.size)→b0s s.ps vs→RdB cx.P D (cx.arg f) x W F O (cat vs) →
  O.Nodup→(∀b∈O,¬F b)→Calls cx.P f vs.toArray W fun e W'=>∃v F',e = .returned v∧Move W F O W' F'∧Ret cx.P D W O s vs (cx.out f) y W' F' v
theorem arg_of {cx:Cx} {f:FuncId} {s:Sig} (hs:cx.sig f=some s):cx.arg f=tupU s.ps:=by unfold Cx.arg;rw[hs]
section
variable {P:Program} {W W':World} {F F':Fz}
theorem d0k.toB:∀(ps:List Ty) {D:Nat→Nat} {x:El (tupU ps)} {vs:List Value},d0k P (tupU ps) x W F vs→b0s ps vs∧RdB P D (tupU ps) x W F [] (cat vs):=by
 intro ps;induction ps with
 | nil=>intro D x vs h;have:vs=[]:=h;subst this;exact ⟨trivial,rfl⟩
 | cons p ps ih =>
  intro D x vs h;obtain ⟨v,r,rfl,h1,h2,h3⟩:=h;obtain ⟨k1,k2⟩:=ih (D:=D) h3;refine ⟨⟨h1,k1⟩,[],[],rfl,RdB.congr p (e0l h1.2.2) (Rd.toB p h2),?_⟩;rw[f0l h1.2.2];exact k2
theorem RdB.cast {a b:Ty} (e:a=b) {D:Nat→Nat} {x:El a} {O:List Nat} {g:Get} (h:RdB P D a x W F O g):RdB P D b (e ▸ x) W F O g:=by subst e;exact h
theorem FnOk.closed {cx:Cx} {call:Oracle cx} (hp:Fns cx) (hf:FnOk cx call) {W0:World} {F0:Fz} (hg0:GlobOk cx W0 F0):CallSound cx call W0 F0:=by
 refine ⟨hp,hg0,fun f s hs hb r hr hcl hone ho x y hy W F vs hg hF hargs => ?_⟩;have hx:b0s s.ps vs∧RdB cx.P D0 (cx.arg f) x W F [] (cat vs):=by
  have e:=arg_of hs;have h2:=d0k.cast e hargs;obtain ⟨k1,k2⟩:=d0k.toB (D:=D0) s.ps h2;refine ⟨k1,?_⟩;have k3:=RdB.cast e.symm k2;have:∀ {t u:Ty} (e:t=u) (x:El t),(e.symm ▸ (e ▸ x:El u):El t)=x:=by
   intro t u e x;subst e;rfl
  rwa [this] at k3
 refine (hf f s hs x y hy D0 W F [] vs hg hF hx.1 hx.2 List.nodup_nil (by simp)).mono fun e W' h => ?_
 obtain ⟨v,F',rfl,hm,ws,O',h1,rfl,h2,_,_,_⟩:=h;rw[hr] at h1
 match ws,h1 with
 | [w],h1 =>
  have hg:RdB cx.P D0 r (ho ▸ y) W' F' O' (cat ([w]++s.back.filterMap (vs[·]?))):=RdB.cast ho h2;obtain ⟨_,h3⟩:=RdB.toRd r hcl hg;refine ⟨w,F',rfl,⟨⟨hm.later.os,hm.later.tape,hm.later.output,hm.later.size,fun b hb=>hm.frame b hb (by simp)⟩,hm.later.more,fun b hb => ?_⟩,h1.1,Rd.congr r (fun j hj => ?_) h3⟩
  ·rcases hm.fz b hb with k | k | k
   ·exact .inl k
   ·cases k
   ·exact .inr k
  ·exact (e0l h1.1.2.2 j hj).symm
end
section
variable {P:Program} {W W':World} {F F' F2:Fz} {E E':EnvM} {h:Heap} {N:Nat→Prop}
def g0a (E:EnvM) (ns:List Nat):Ups:=ns.map fun n=>(n,E.top n,none)
def h0d (E:EnvM) (ns:List Nat):Ups:=ns.map fun n=>(n,E.top n+1,none)
theorem j1j (E:EnvM) (ns:List Nat):a0e (g0a E ns)=ns:=by
 simp only[a0e,g0a,List.map_map];exact List.map_id _
theorem a1h (E:EnvM) (ns:List Nat):a0e (h0d E ns)=ns:=by
 simp only[a0e,h0d,List.map_map];exact List.map_id _
theorem HR.kill:∀(ns:List Nat) {h:Heap},HR P W F E N h→(∀n∈ns,N n∧n<h.length) →
  HR P W F E N (a0u h (g0a E ns))∧∀m b,atName (a0u h (g0a E ns)) E m b→m ∉ ns∧atName h E m b:=by
 intro ns;induction ns with
 | nil=>intro h hr _;exact ⟨hr,fun m b hm=>⟨by simp,hm⟩⟩
 | cons n r ih =>
  intro h hr hN;obtain ⟨k1,k2⟩:=hN n (by simp);have h1:HR P W F E N (h.set n (E.top n,none)) :=
   hr.put k1 (EnvLe.refl E) rfl (fun _ _=>rfl) (Later.refl W F) (fun b _=>⟨rfl,fun h=>h⟩) (fun B hB=>by cases hB)
  obtain ⟨m1,m2⟩:=ih h1 (fun m hm=>by obtain ⟨a,b⟩:=hN m (by simp[hm]);exact ⟨a,by simpa using b⟩);refine ⟨m1,fun m b hat => ?_⟩;obtain ⟨q1,v,B,L,q2,q3⟩:=m2 m b hat;by_cases e:m=n
  ·subst e;rw[List.getElem?_set] at q2;simp[k2] at q2
  ·rw[List.getElem?_set_ne (fun q=>e q.symm)] at q2;exact ⟨by simp[e,q1],v,B,L,q2,q3⟩
theorem HR.bumps:∀(ns:List Nat) {h:Heap} {E:EnvM},HR P W F E N h→(∀n∈ns,N n∧n<h.length)→ns.Nodup →
  ∃E',EnvLe E E'∧HR P W F E' N (a0u h (h0d E ns))∧(∀m,m ∉ ns→E'.top m=E.top m)∧∀m b,atName (a0u h (h0d E ns)) E' m b→m ∉ ns∧atName h E m b:=by
 intro ns;induction ns with
 | nil=>intro h E hr _ _;exact ⟨E,EnvLe.refl E,hr,fun _ _=>rfl,fun m b hm=>⟨by simp,hm⟩⟩
 | cons n r ih =>
  intro h E hr hN hnd;rw[List.nodup_cons] at hnd;obtain ⟨k1,k2⟩:=hN n (by simp);have h1:HR P W F (E.next n none) N (h.set n (E.top n+1,none)) :=
   hr.put k1 (EnvM.next_le E n none) (EnvM.next_top _ _ _) (fun m hm=>EnvM.next_other _ _ _ m hm) (Later.refl W F) (fun b _=>⟨rfl,fun h=>h⟩) (fun B hB=>by cases hB)
  obtain ⟨E',m0,m1,m2,m3⟩:=ih h1 (fun m hm=>by obtain ⟨a,b⟩:=hN m (by simp[hm]);exact ⟨a,by simpa using b⟩) hnd.2;have hb:h0d (E.next n none) r=h0d E r:=by
   simp only[h0d];refine List.map_congr_left fun m hm => ?_
   rw[EnvM.next_other _ _ _ m (fun e=>by subst e;exact hnd.1 hm)]
  rw[hb] at m1 m3;refine ⟨E',(EnvM.next_le E n none).trans m0,m1,fun m hm => ?_,fun m b hat => ?_⟩
  ·simp only[List.mem_cons,not_or] at hm;rw[m2 m hm.2,EnvM.next_other _ _ _ m hm.1]
  ·obtain ⟨q1,v,B,L,q2,q3,q4⟩:=m3 m b hat;by_cases e:m=n
   ·subst e;rw[List.getElem?_set] at q2;simp[k2] at q2
   ·rw[List.getElem?_set_ne (fun q=>e q.symm)] at q2;have:atName h (E.next n none) m b:=⟨v,B,L,q2,q3,q4⟩;exact ⟨by simp[e,q1],(k0e (EnvM.next_le E n none) hr).1 this⟩
theorem z0t {h:Heap} {ns:List Nat} {n:Nat} (hn:n∈a0e (a0i h ns)):n∈ns:=by
 induction ns with
 | nil=>cases hn
 | cons m r ih =>
  rw[j0r] at hn;simp only[a0e,List.map_append,List.mem_append] at hn;rcases hn with hn | hn
  ·split at hn
   ·simp at hn;simp[hn]
   ·simp at hn
  ·exact List.mem_cons_of_mem _ (ih hn)
theorem k0z {taken ls O O':List Nat} (hr:HR P W F E N h) (hT:Takes F h E taken O) (hN:∀n∈taken,N n∧n<h.length)
  (hl:Later W (a0g F h E ls) W' F2) (hframe:∀b,b<W.heap.size→b ∉ O→W'.heap[b]? = W.heap[b]?) (hfz:∀b,F2 b→a0g F h E ls b∨b∈O∨(W.heap.size≤b∧b<W'.heap.size))
  (hO':∀b∈O',b∈O∨W.heap.size≤b) :
  HR P W' F2 E N (a0u (a0u h (a0i h ls)) (g0a E taken))∧(∀b∈O',¬a0p (a0u (a0u h (a0i h ls)) (g0a E taken)) E b) ∧
   ∀m b,atName (a0u (a0u h (a0i h ls)) (g0a E taken)) E m b→m ∉ taken∧atName h E m b:=by
 obtain ⟨h1,hfr⟩:=HR.freeze ls hr (k0h.refl h);obtain ⟨h2,h3⟩:=HR.kill taken h1 (fun n hn=>⟨(hN n hn).1,by rw[a0k];exact (hN n hn).2⟩);have hat:∀m b,atName (a0u (a0u h (a0i h ls)) (g0a E taken)) E m b→m ∉ taken∧atName h E m b:=fun m b k=>⟨(h3 m b k).1,(hfr.atName m b).1 (h3 m b k).2⟩
 have hnot:∀b,a0p (a0u (a0u h (a0i h ls)) (g0a E taken)) E b→b<W.heap.size∧b ∉ O:=by
  rintro b ⟨m,k⟩;obtain ⟨k1,k2⟩:=hat m b k;refine ⟨hr.lt b ⟨m,k2⟩,fun hb => ?_⟩;obtain ⟨n,hn,k3⟩:=hT.at_ b hb;exact k1 (b0h hr k3 k2 ▸ hn)
 refine ⟨h2.world hl (fun b hb => ?_),fun b hb hlive => ?_,hat⟩
 ·obtain ⟨k1,k2⟩:=hnot b hb;refine ⟨hframe b k1 k2,fun hn hf => ?_⟩;rcases hfz b hf with q | q | q
  ·exact hn q
  ·exact k2 q
  ·omega
 ·obtain ⟨k1,k2⟩:=hnot b hlive;rcases hO' b hb with q | q
  ·exact k2 q
  ·omega
theorem k0c {taken takes ls O O':List Nat} {u:Ups} {E1:EnvM} (hr:HR P W F E N h) (hT:Takes F h E taken O)
  (hsub:∀n∈takes,n∈taken) (hnd2:takes.Nodup) (hall:∀n∈taken,n∈takes∨n∈a0e u) (hls:∀n∈ls,n ∉ taken)
  (hl:Later W (a0g F h E ls) W' F2) (hframe:∀b,b<W.heap.size→b ∉ O→W'.heap[b]? = W.heap[b]?) (hfz:∀b,F2 b→a0g F h E ls b∨b∈O∨(W.heap.size≤b∧b<W'.heap.size))
  (hO':∀b∈O',b∈O∨W.heap.size≤b) (hlt:∀b∈O',b<W'.heap.size)
  (hN:∀n∈a0e (c0k h takes++a0i h ls++u),N n∧n<h.length)
  (hc:CameU P W' F2 E N (a0u (a0u h (a0i h ls)) (g0a E taken)) O' u E1) :
  ∃E',EnvLe E1 E'∧OpPost P W F E N h W' F2 E' (c0k h takes++a0i h ls++u):=by
 have hnames:∀n,n∈a0e (c0k h takes++a0i h ls++u)↔n∈takes∨n∈a0e (a0i h ls)∨n∈a0e u:=by
  intro n;simp[a0e,c0k]
 have hNt:∀n∈taken,N n∧n<h.length:=fun n hn=>by
  rcases hall n hn with k | k
  ·exact hN n ((hnames n).2 (.inl k))
  ·exact hN n ((hnames n).2 (.inr (.inr k)))
 obtain ⟨hmid,hdead,hat⟩:=k0z hr hT hNt hl hframe hfz hO';have hbn:∀n∈takes.filter (fun n => !hasN (a0e u) n),n∈takes∧n ∉ a0e u:=by
  intro n hn;rw[List.mem_filter] at hn;refine ⟨hn.1,fun k => ?_⟩;have:=b0r.2 k;rw[this] at hn;exact absurd hn.2 (by simp)
 obtain ⟨E2,e1,e2,e3,e4⟩:=HR.bumps (takes.filter (fun n => !hasN (a0e u) n)) hc.hr
  (fun n hn=>by
   obtain ⟨k1,k2⟩:=hbn n hn;obtain ⟨m1,m2⟩:=hNt n (hsub n k1)
   exact ⟨m1,by rw[a0k,a0k,a0k];exact m2⟩) (hnd2.filter _)
 generalize hG:takes.filter (fun n => !hasN (a0e u) n)=G at hbn e2 e3 e4;have hGmem:∀n,n∈takes→n ∉ a0e u→n∈G:=by
  intro n h1 h2;rw[←hG,List.mem_filter];refine ⟨h1,?_⟩;cases hh:hasN (a0e u) n with
  | false=>rfl
  | true=>exact absurd (b0r.1 hh) h2
 have hext:∀n:Nat,(a0u h (c0k h takes++a0i h ls++u))[n]? = (a0u (a0u (a0u (a0u h (a0i h ls)) (g0a E taken)) u) (h0d E1 G))[n]? := by
  intro n;rw[e0e,e0e];by_cases hu:n∈a0e u
  ·rw[b0f (h0d E1 G) _ n (by rw[a1h];exact fun k=>(hbn n k).2 hu)];exact f0u u _ _ n hu (by simp[a0k])
  ·rw[b0f u _ n hu];by_cases ht:n∈takes
   ·have hG':=hGmem n ht hu;have hfr:n ∉ a0e (a0i h ls):=fun k=>hls n (z0t k) (hsub n ht)
    rw[b0f (a0i h ls) _ n hfr];have htop:E1.top n=a0h h n:=by
     obtain ⟨k1,k2⟩:=hNt n (hsub n ht);rw[hc.tops n hu,a0y hr k1 k2]
    have hlt':=(hNt n (hsub n ht)).2;have key:∀(f:Nat→Nat) (ns:List Nat) (k:Heap),n∈ns→n<k.length→(a0u k (ns.map fun m=>(m,f m,none)))[n]? = some (f n,none):=by
     intro f ns;induction ns with
     | nil=>intro k hn;cases hn
     | cons m r ih =>
      intro k hn hk;simp only[List.map_cons,a0u];by_cases hr':n∈r
      ·exact ih _ hr' (by simpa using hk)
      ·have:n=m:=(List.mem_cons.1 hn).resolve_right hr';subst this;rw[b0f _ _ n (by simpa [a0e] using hr'),List.getElem?_set];simp[hk]
    rw[show c0k h takes=takes.map fun m=>(m,(fun m=>a0h h m+1) m,none) from rfl,key (fun m=>a0h h m+1) takes h ht hlt'];rw[show h0d E1 G=G.map fun m=>(m,(fun m=>E1.top m+1) m,none) from rfl,key (fun m=>E1.top m+1) G _ hG' (by rw[a0k,a0k,a0k];exact hlt')];simp[htop]
   ·have hnt:n ∉ taken:=fun k=>(hall n k).elim ht hu
    rw[b0f (h0d E1 G) _ n (by rw[a1h];exact fun k=>ht (hbn n k).1),b0f u _ n hu,b0f (g0a E taken) _ n (by rw[j1j];exact hnt)];by_cases hfr:n∈a0e (a0i h ls)
    ·exact f0u _ _ _ n hfr (a0k _ _)
    ·rw[b0f _ _ n hfr,b0f _ _ n hfr,b0f _ _ n (by simpa [a0e,c0k] using ht)]
 refine ⟨E2,e1,HR.ext e2 hext,(a0z ls).trans hl,hc.env.trans e1,fun b hb hnot => ?_,fun b hb => ?_,fun m b hm hat' => ?_,fun m hm => ?_⟩
 ·refine hframe b hb (fun hbO => ?_);obtain ⟨n,hn,k⟩:=hT.at_ b hbO;exact hnot n ((hnames n).2 (by rcases hall n hn with q | q;exact .inl q;exact .inr (.inr q))) k
 ·rcases hfz b hb with (k | ⟨n,hn,k⟩) | k | k
  ·exact .inl k
  ·exact .inr (.inl ⟨n,(hnames n).2 (.inr (.inl (q0b hn k))),k⟩)
  ·obtain ⟨n,hn,k⟩:=hT.at_ b k;exact .inr (.inl ⟨n,(hnames n).2 (by rcases hall n hn with q | q;exact .inl q;exact .inr (.inr q)),k⟩)
  ·exact .inr (.inr k)
 ·have hat2:atName (a0u (a0u (a0u (a0u h (a0i h ls)) (g0a E taken)) u) (h0d E1 G)) E2 m b:=by
   obtain ⟨v,B,L,q1,q2⟩:=hat';exact ⟨v,B,L,by rw[←hext];exact q1,q2⟩
  obtain ⟨_,hat3⟩:=e4 m b hat2;rcases hc.at_ m b hat3 with ⟨k1,k2⟩ | ⟨k1,k2⟩
  ·rcases hO' b k2 with q | q
   ·obtain ⟨n,hn,k⟩:=hT.at_ b q;exact .inl ⟨n,(hnames n).2 (by rcases hall n hn with q | q;exact .inl q;exact .inr (.inr q)),k⟩
   ·exact .inr ⟨q,hlt b k2⟩
  ·exact .inl ⟨m,hm,(hat m b k2).2⟩
 ·rw[hnames] at hm;simp only[not_or] at hm;rw[e3 m (fun k=>hm.1 (hbn m k).1),hc.tops m hm.2.2]
end
end Go.Flat
end
