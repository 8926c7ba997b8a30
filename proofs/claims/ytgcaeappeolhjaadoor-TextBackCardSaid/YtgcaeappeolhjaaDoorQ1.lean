/-
  Plain proofs about the functions of this seat, part 1 of 1.
-/
import Derived.IntWalk
import Derived.Test.YtgcaeappeolhjaaDoorTr
import Derived.Test.YtgcaeappeolhjaaDoorFlatM4
namespace Go.Plim
set_option linter.unusedVariables false
abbrev Wd:=Int×Int
abbrev Ev:=Int×(Int×(Int×Bool))
abbrev Cel:=Int×(Ev×(Ev×(Wd×(Int×(Int×Int)))))
instance decWd:DecidableEq Wd:=inferInstanceAs (DecidableEq (Int×Int))
instance decEv:DecidableEq Ev:=inferInstanceAs (DecidableEq (Int×(Int×(Int×Bool))))
instance decCel:DecidableEq Cel := @instDecidableEqProd _ _ _ (@instDecidableEqProd _ _ decEv (@instDecidableEqProd _ _ decEv (@instDecidableEqProd _ _ decWd inferInstance)))
def wv (a:Wd):Int:=a.1*18446744073709551616+a.2
structure WdOk (a:Wd):Prop where
  hi:0≤a.1∧a.1≤18446744073709551615
  lo:0≤a.2∧a.2≤18446744073709551615
def e0:Ev:=(0,(0,(0,false)))
structure EvOk (e:Ev):Prop where
  t0:0≤e.1
  t1:e.1<35184372088832
  v0:0≤e.2.1
  v1:e.2.1≤18446744073709551615
  c0:0≤e.2.2.1
  c1:e.2.2.1≤e.1
  st:e.2.2.2=true→e.2.1=0∧e.2.2.1=0
theorem evOk_iff (e:Ev):EvOk e↔(0≤e.1∧e.1<35184372088832∧0≤e.2.1∧e.2.1≤18446744073709551615∧0≤e.2.2.1∧e.2.2.1≤e.1∧(e.2.2.2=true→e.2.1=0∧e.2.2.1=0)) :=
  ⟨fun ⟨a,b,c,d,f,g,h⟩=>⟨a,b,c,d,f,g,h⟩,fun ⟨a,b,c,d,f,g,h⟩=>⟨a,b,c,d,f,g,h⟩⟩
instance (e:Ev):Decidable (EvOk e):=decidable_of_iff _ (evOk_iff e).symm
structure DlOk (d:Int×(Int×(Int×Int))) (s:Int):Prop where
  i:0≤d.1∧d.1≤18446744073709551615
  r:0≤d.2.1
  g:0≤d.2.2.1
  rg:d.2.1+d.2.2.1≤1
  s:0≤d.2.2.2∧d.2.2.2≤s
def z0:Cel:=(0,(e0,(e0,((0,0),(0,(0,0))))))
structure CellN (c:Cel):Prop where
  n1:1≤c.1
  f:EvOk c.2.1
  l:EvOk c.2.2.1
  one:c.1=1→c.2.1=c.2.2.1
  more:1<c.1→c.2.1.1<c.2.2.1.1
  n2:c.1-1≤c.2.2.1.1-c.2.1.1
  w:WdOk c.2.2.2.1
  inc:wv c.2.2.2.1≤18446744073709551615*(c.1-1)
  r:0≤c.2.2.2.2.1
  g:0≤c.2.2.2.2.2.1
  rg:c.2.2.2.2.1+c.2.2.2.2.2.1≤c.1-1
  s0:0≤c.2.2.2.2.2.2
  s1:c.2.2.2.2.2.2≤c.2.2.1.1-c.2.1.1
def CellOk (c:Cel):Prop:=c=z0∨CellN c
theorem CellN.ne {c:Cel} (h:CellN c):c≠z0:=by
  intro e;have:=h.n1;rw[e] at this;simp[z0] at this
theorem CellN.ok {c:Cel} (h:CellN c):CellOk c := .inr h
theorem CellOk.n {c:Cel} (h:CellOk c) (hz:c≠z0):CellN c:=h.resolve_left hz
theorem CellOk.count {c:Cel} (h:CellOk c):(c.1=0↔c=z0)∧0≤c.1:=by
  rcases h with rfl | h
  · exact ⟨⟨fun _=>rfl,fun _=>rfl⟩,by simp[z0]⟩
  · have:=h.n1;exact ⟨⟨fun e=>by omega,fun e=>absurd e h.ne⟩,by omega⟩
theorem CellN.ft {c:Cel} (h:CellN c):c.2.1.1≤c.2.2.1.1:=by have:=h.n1;have:=h.n2;omega
theorem CellN.small {c:Cel} (h:CellN c):c.1≤35184372088832:=by
  have:=h.n2;have:=h.f.t0;have:=h.l.t1;omega
structure Foll (l:List Ev):Prop where
  ok:∀e∈l,EvOk e
  inc:l.Pairwise fun a b=>a.1<b.1
theorem Foll.nil:Foll []:=⟨by simp,.nil⟩
theorem Foll.sub {l m:List Ev} (h:Foll l) (s:m.Sublist l):Foll m:=⟨fun e he=>h.ok e (s.subset he),h.inc.sublist s⟩
structure Has (l:List Ev) (c:Cel):Prop where
  n:CellN c
  cnt:c.1=l.length
  first:l.head? = some c.2.1
  last:l.getLast? = some c.2.2.1
end Go.Plim

namespace Go.Proofs.YtgcaeappeolhjaaDoor
open Go.Flat Go.Plim
set_option linter.unusedVariables false
set_option linter.unusedSimpArgs false
theorem shr_nat (x:Int) (k:Nat) (hk:k≤64):shrI .u64 x (k:Int)=x / 2^k:=by
  unfold shrI
  rw[show min (k:Int).toNat IntKind.u64.bits=k from by show min (k:Int).toNat 64=k;omega]
  exact Int.fdiv_eq_ediv_of_nonneg _ (Int.le_of_lt (Int.pow_pos (by decide)))
theorem at_mid {α:Type} {l pre rest:List α} {x:α} {i:Int} (h:l=pre++x::rest) (hi:i=pre.length):at? l i=some x:=by
  subst h hi;simp[at?]
theorem idx {α:Type} {l pre rest:List α} {x:α} {i len:Int} (h:l=pre++x::rest) (hi:i=pre.length) (hn:len=l.length):i<len:=by
  have:=congrArg List.length h
  simp at this
  omega
theorem idxe {α:Type} {l pre:List α} {i len:Int} (h:l=pre++[]) (hi:i=pre.length) (hn:len=l.length):¬(i<len):=by
  have:=congrArg List.length h
  simp at this
  omega
theorem idxw {α:Type} {l pre rest:List α} {x:α} {i:Int} (h:l=pre++x::rest) (hi:i=pre.length) (hL:l.length≤1000000000000):IntKind.wrap .i64 (i+1)=i+1:=by
  have:=congrArg List.length h
  simp at this
  rw[w64 (by omega) (by omega)]
theorem idxs {α:Type} {pre:List α} {x:α} {i:Int} (hi:i=pre.length):i+1=((pre++[x]).length:Int):=by simp;omega
theorem idxl {α:Type} {l pre rest:List α} {x:α} (h:l=pre++x::rest):l=(pre++[x])++rest:=by rw[h];simp
def I64 (x:Int):Prop := -9223372036854775808≤x∧x≤9223372036854775807
structure EvW (e:Ev):Prop where
  t:I64 e.1
  v:0≤e.2.1∧e.2.1≤18446744073709551615
  c:I64 e.2.2.1
structure CelW (c:Cel):Prop where
  n:I64 c.1
  f:EvW c.2.1
  l:EvW c.2.2.1
  w:WdOk c.2.2.2.1
  r:I64 c.2.2.2.2.1
  g:I64 c.2.2.2.2.2.1
  s:I64 c.2.2.2.2.2.2
theorem EvW.of {e:Ev} (h:EvOk e):EvW e:=by
  obtain ⟨a,b,c,d,f,g,_⟩:=h
  exact ⟨by unfold I64;omega,⟨c,d⟩,by unfold I64;omega⟩
theorem CelW.ofN {c:Cel} (h:CellN c):CelW c:=by
  have:=h.small;have:=h.n1;have:=h.f.t0;have:=h.f.t1;have:=h.l.t0;have:=h.l.t1;have:=h.r;have:=h.g;have:=h.rg;have:=h.s0;have:=h.s1
  exact ⟨by unfold I64;omega,.of h.f,.of h.l,h.w,by unfold I64;omega,by unfold I64;omega,by unfold I64;omega⟩
theorem celW_z0:CelW z0:=⟨by simp[I64,z0],⟨by simp[I64,z0,e0],by simp[z0,e0],by simp[I64,z0,e0]⟩,⟨by simp[I64,z0,e0],by simp[z0,e0],by simp[I64,z0,e0]⟩,⟨by simp[z0],by simp[z0]⟩,by simp[I64,z0],by simp[I64,z0],by simp[I64,z0]⟩
theorem CelW.of {c:Cel} (h:CellOk c):CelW c:=by
  rcases h with rfl | h
  · exact celW_z0
  · exact .ofN h
abbrev Lab:=List UInt8×List UInt8
def sgn (c:Int):Prop:=(97≤c∧c≤122)∨(65≤c∧c≤90)∨(48≤c∧c≤57)∨c=95
instance (c:Int):Decidable (sgn c):=by unfold sgn;infer_instance
def digitP (c:Int):Prop:=48≤c∧c≤57
instance (c:Int):Decidable (digitP c):=by unfold digitP;infer_instance
def NameOk:List UInt8→Prop
  | []=>False
  | b::r=>(b::r).length≤64∧¬digitP (b.toNat:Int)∧∀x∈b::r,sgn (x.toNat:Int)
instance:(s:List UInt8)→Decidable (NameOk s)
  | [] => .isFalse id
  | b::r=>by unfold NameOk;infer_instance
theorem low_all:∀c:Fin 256,(97≤orI .u8 (c.val:Int) 32∧orI .u8 (c.val:Int) 32≤122)↔((97≤(c.val:Int)∧(c.val:Int)≤122)∨(65≤(c.val:Int)∧(c.val:Int)≤90)):=by decide +kernel
theorem low (c:Int) (h:0≤c∧c≤255):(97≤orI .u8 c 32∧orI .u8 c 32≤122)↔((97≤c∧c≤122)∨(65≤c∧c≤90)):=by
  obtain ⟨k,rfl⟩:=Int.eq_ofNat_of_zero_le h.1
  exact low_all ⟨k,by omega⟩
theorem label_digit_val (n:Nat) (c:Int):label_digit (n+1) c=some (decide (digitP c)):=by
  rw[label_digit_eq]
  unfold digitP
  by_cases h1:(48:Int)≤c<;>by_cases h2:c≤57<;>simp[h1,h2]
theorem label_sign_val (n:Nat) (c:Int) (h:0≤c∧c≤255):label_sign (n+2) c=some (decide (sgn c)):=by
  rw[label_sign_eq,label_digit_val]
  simp only[obs,tfd]
  have hl:=low c h
  by_cases h1:digitP c
  · rw[if_pos h1,decide_eq_true (show sgn c from .inr (.inr (.inl h1)))]
  rw[if_neg h1]
  by_cases h2:c=95
  · rw[if_pos h2,decide_eq_true (show sgn c from .inr (.inr (.inr h2)))]
  rw[if_neg h2]
  by_cases h3:97≤orI .u8 c 32
  · rw[if_pos h3]
    refine congrArg some (decide_eq_decide.2 ?_)
    constructor
    · intro k
      rcases hl.1 ⟨h3,k⟩ with q | q
      · exact .inl q
      · exact .inr (.inl q)
    · intro k
      rcases k with k | k | k | k
      · exact (hl.2 (.inl k)).2
      · exact (hl.2 (.inr k)).2
      · exact absurd k h1
      · exact absurd k h2
  · rw[if_neg h3,decide_eq_false]
    intro k
    rcases k with k | k | k | k
    · exact h3 (hl.2 (.inl k)).1
    · exact h3 (hl.2 (.inr k)).1
    · exact h1 k
    · exact h2 k
theorem index_byte (n:Nat) {del:Int×Unit→Option Bool} {p:Int→Bool} (l:List Int) (hL:l.length≤1000000000000) (hd:∀x∈l,del (x,())=some (p x)):∀(rest pre:List Int) (f:Nat) (i len:Int),l=pre++rest→i=pre.length→len=l.length→rest.length<f →
    (sl_IndexFunc_byte_l2 n f (l,del,len,i,())=some (.inl ())∧∀x∈rest,p x=false) ∨
    (∃k:Int,0≤k∧sl_IndexFunc_byte_l2 n f (l,del,len,i,())=some (.inr k)∧∃x∈rest,p x=true):=by
  intro rest
  induction rest with
  | nil =>
    intro pre f i len hl hi hn hf
    obtain ⟨f,rfl⟩:∃g,f=g+1:=⟨f-1,by simp at hf;omega⟩
    rw[sl_IndexFunc_byte_l2_eq]
    exact .inl ⟨by simp only[tfd,if_neg (idxe hl hi hn)],by simp⟩
  | cons x rest ih =>
    intro pre f i len hl hi hn hf
    obtain ⟨f,rfl⟩:∃g,f=g+1:=⟨f-1,by simp at hf;omega⟩
    rw[sl_IndexFunc_byte_l2_eq]
    simp only[tfd,if_pos (idx hl hi hn),at_mid hl hi,obs,hd x (by rw[hl];simp),idxw hl hi hL]
    cases hp:p x with
    | true=>exact .inr ⟨i,by omega,by simp,x,by simp,hp⟩
    | false =>
      rw[tff]
      rcases ih (pre++[x]) f (i+1) len (idxl hl) (idxs hi) hn (by simp at hf;omega) with ⟨h1,h2⟩ | ⟨k,h1,h2,y,hy,h3⟩
      · exact .inl ⟨h1,by intro z hz;rcases List.mem_cons.1 hz with rfl | hz;exact hp;exact h2 z hz⟩
      · exact .inr ⟨k,h1,h2,y,by simp[hy],h3⟩
theorem contains_byte (n:Nat) {del:Int×Unit→Option Bool} {p:Int→Bool} (l:List Int) (hL:l.length≤1000000000000) (hd:∀x∈l,del (x,())=some (p x)):sl_ContainsFunc_byte (n+2) l del=some (l.any p):=by
  rw[sl_ContainsFunc_byte_eq,sl_IndexFunc_byte_eq]
  rcases index_byte n l hL hd l [] loopFuel 0 l.length rfl rfl rfl (by unfold loopFuel;omega) with ⟨h1,h2⟩ | ⟨k,h1,h2,x,hx,h3⟩
  · rw[h1]
    have:l.any p=false:=by rw[List.any_eq_false];intro x hx;simp[h2 x hx]
    rw[this];rfl
  · rw[h2]
    have:l.any p=true:=List.any_eq_true.2 ⟨x,hx,h3⟩
    simp[this,h1]
theorem label_name_val (n:Nat) (s:List UInt8):label_name (n+5) s=some (decide (NameOk s)):=by
  rw[label_name_eq]
  match s with
  | []=>rfl
  | b::r =>
    have e1:((b::r)==[])=false:=rfl
    have e2:at? (b::r) (0:Int)=some b:=rfl
    rw[e1,tff,e2,obs,label_digit_val,obs]
    simp only[tfd]
    by_cases h1:(64:Int)<(b::r).length
    · rw[if_pos h1,decide_eq_false (fun k:NameOk (b::r)=>by have:=k.1;omega)]
    rw[if_neg h1]
    by_cases h2:digitP (b.toNat:Int)
    · rw[if_pos h2,decide_eq_false (fun k:NameOk (b::r)=>k.2.1 h2)]
    rw[if_neg h2,contains_byte (p:=fun c => !decide (sgn c)) (n+2) _ (by simp at h1 ⊢;omega) (fun x hx=>by
      obtain ⟨c,_,rfl⟩:=List.mem_map.1 hx
      have:=c.toNat_lt
      show label_name_1 (n+3+1) _=_
      rw[label_name_1_eq,label_sign_val (n+1) _ (by omega)];rfl)]
    simp only[obs]
    refine congrArg some ?_
    by_cases h3:∀x∈b::r,sgn (x.toNat:Int)
    · rw[decide_eq_true (show NameOk (b::r) from ⟨by omega,h2,h3⟩)]
      rw[List.any_eq_false.2]
      · rfl
      · intro x hx
        obtain ⟨c,hc,rfl⟩:=List.mem_map.1 hx
        simp[h3 c hc]
    · rw[decide_eq_false (fun k:NameOk (b::r)=>h3 k.2.2)]
      have:∃x∈b::r,¬sgn (x.toNat:Int):=Classical.byContradiction fun k=>h3 fun x hx=>Classical.byContradiction fun q=>k ⟨x,hx,q⟩
      obtain ⟨x,hx,hq⟩:=this
      rw[List.any_eq_true.2 ⟨(x.toNat:Int),List.mem_map.2 ⟨x,hx,rfl⟩,by simp[hq]⟩]
      rfl
def chkL:Option (List UInt8)→List Lab→Prop
  | _,[]=>True
  | p,x::r=>NameOk x.1∧x.2.length≤128∧(∀q,p=some q→Op.bytesLess q x.1=true)∧chkL (some x.1) r
def sumL (l:List Lab):Int:=(l.map fun x=>((x.1.length:Int)+x.2.length)).sum
theorem sumL_nn (l:List Lab):0≤sumL l:=by
  induction l with
  | nil=>simp[sumL]
  | cons x l ih=>simp only[sumL,List.map_cons,List.sum_cons] at *;omega
theorem sumL_cons (x:Lab) (l:List Lab):sumL (x::l)=x.1.length+x.2.length+sumL l:=by simp[sumL]
theorem NameOk.len {s:List UInt8} (h:NameOk s):s.length≤64:=by
  match s with
  | []=>simp
  | b::r=>exact h.1
structure LabOk (l:List Lab):Prop where
  n0:1≤l.length
  n1:l.length≤16
  c:chkL none l
  t:sumL l≤256
noncomputable instance (l:List Lab):Decidable (LabOk l):=Classical.propDecidable _
theorem prev_at {l pre rest:List Lab} {x:Lab} {i:Int} (hl:l=pre++x::rest) (hi:i=pre.length) (hL:l.length≤1000000) (h:0<i):∃q,pre.getLast? = some q∧at? l (IntKind.wrap .i64 (i-1))=some q:=by
  rcases List.eq_nil_or_concat pre with rfl | ⟨q,y,rfl⟩
  · simp at hi;omega
  rw[List.concat_eq_append] at *
  have hlen:=congrArg List.length hl
  simp at hlen hi
  refine ⟨y,by simp,?_⟩
  rw[w64 (by omega) (by omega)]
  exact at_mid (pre:=q) (rest:=x::rest) (by rw[hl];simp) (by omega)
theorem label_check_l (n:Nat) (l:List Lab) (hL:l.length≤16):∀(rest pre:List Lab) (f:Nat) (left i len:Int),l=pre++rest→i=pre.length→len=l.length→rest.length<f→0≤left→left≤256 →
    (chkL (pre.getLast?.map (·.1)) rest∧sumL rest≤left→label_Check_l5 (n+5) f (l,left,l,len,i,())=some (.inl ())) ∧
    (¬(chkL (pre.getLast?.map (·.1)) rest∧sumL rest≤left)→label_Check_l5 (n+5) f (l,left,l,len,i,())=some (.inr 8)):=by
  intro rest
  induction rest with
  | nil =>
    intro pre f left i len hl hi hn hf h0 h1
    obtain ⟨f,rfl⟩:∃g,f=g+1:=⟨f-1,by simp at hf;omega⟩
    rw[label_Check_l5_eq]
    refine ⟨fun _=>by simp only[tfd,if_neg (idxe hl hi hn)],fun k=>absurd ⟨trivial,by simpa [sumL] using h0⟩ k⟩
  | cons x rest ih =>
    intro pre f left i len hl hi hn hf h0 h1
    obtain ⟨f,rfl⟩:∃g,f=g+1:=⟨f-1,by simp at hf;omega⟩
    rw[label_Check_l5_eq]
    have hsn:=sumL_nn rest
    simp only[tfd,tfn,if_pos (idx hl hi hn),at_mid hl hi,obs,idxw hl hi (by omega),label_name_val n x.1]
    rw[sumL_cons]
    by_cases c1:NameOk x.1
    case neg=>rw[if_neg c1];exact ⟨fun k=>absurd k.1.1 c1,fun _=>rfl⟩
    rw[if_pos c1]
    have hn1:=c1.len
    by_cases c2:(128:Int)<x.2.length
    · rw[if_pos c2];exact ⟨fun k=>by have:=k.1.2.1;omega,fun _=>rfl⟩
    rw[if_neg c2,w64 (x:=(x.1.length:Int)+x.2.length) (by omega) (by omega),w64 (x:=left-((x.1.length:Int)+x.2.length)) (by omega) (by omega)]
    by_cases c3:left-((x.1.length:Int)+x.2.length)<0
    · rw[if_pos c3];exact ⟨fun k=>by have:=k.2;omega,fun _=>rfl⟩
    rw[if_neg c3]
    have ih':=ih (pre++[x]) f (left-((x.1.length:Int)+x.2.length)) (i+1) len (idxl hl) (idxs hi) hn (by simp at hf;omega) (by omega) (by omega)
    have el:(pre++[x]).getLast?.map (·.1)=some x.1:=by simp
    rw[el] at ih'
    have step:(∀q,pre.getLast?.map (·.1)=some q→Op.bytesLess q x.1=true) →
        ((chkL (pre.getLast?.map (·.1)) (x::rest)∧(x.1.length:Int)+x.2.length+sumL rest≤left)↔(chkL (some x.1) rest∧sumL rest≤left-((x.1.length:Int)+x.2.length))):=by
      intro hq
      constructor
      · rintro ⟨k1,k2⟩;exact ⟨k1.2.2.2,by omega⟩
      · rintro ⟨k1,k2⟩;exact ⟨⟨c1,by omega,hq,k1⟩,by omega⟩
    by_cases c4:0<i
    · obtain ⟨q,hq,hat⟩:=prev_at hl hi (by omega) c4
      rw[if_pos c4,hat,obs]
      by_cases c5:Op.bytesLess q.1 x.1=true
      · rw[c5,tft,step (fun z hz=>by rw[hq] at hz;simp at hz;rw[←hz];exact c5)]
        exact ih'
      · have c5':Op.bytesLess q.1 x.1=false:=by simpa using c5
        rw[c5',tff]
        exact ⟨fun k=>absurd (k.1.2.2.1 q.1 (by rw[hq];rfl)) c5,fun _=>rfl⟩
    · have hp:pre=[]:=List.length_eq_zero_iff.1 (by omega)
      rw[if_neg c4,step (fun z hz=>by rw[hp] at hz;cases hz)]
      exact ih'
theorem label_check (n:Nat) (l:List Lab):label_Check (n+6) l=some (if LabOk l then 0 else 8):=by
  rw[label_Check_eq]
  simp only[tfd]
  by_cases h1:(l.length:Int)=0
  · rw[if_pos h1,if_neg (fun k:LabOk l=>by have:=k.n0;omega)]
  by_cases h2:(16:Int)<l.length
  · rw[if_neg h1,if_pos h2,if_neg (fun k:LabOk l=>by have:=k.n1;omega)]
  rw[if_neg h1,if_neg h2]
  have hl:=label_check_l n l (by omega) l [] loopFuel 256 0 l.length rfl rfl rfl (by unfold loopFuel;omega) (by decide) (by decide)
  by_cases h3:chkL none l∧sumL l≤256
  · rw[hl.1 h3,if_pos (⟨by omega,by omega,h3.1,h3.2⟩:LabOk l)];rfl
  · rw[hl.2 h3,if_neg (fun k:LabOk l=>h3 ⟨k.c,k.t⟩)];rfl
theorem labEq (a b:Lab):((a.1==b.1)&&(a.2==b.2))=decide (a=b):=by
  rw[Bool.eq_iff_iff];simp[Prod.ext_iff]
def qb (c:UInt8):List UInt8:=if c.toNat=10 then [92,110] else if c.toNat=34 then [92,c] else if c.toNat=92 then [92,c] else [c]
def qt (s:List UInt8):List UInt8:=s.flatMap qb
theorem qb_len (c:UInt8):(qb c).length≤2:=by
  unfold qb
  split
  · simp
  split
  · simp
  split<;>simp
theorem qt_cons (c:UInt8) (s:List UInt8):qt (c::s)=qb c++qt s:=rfl
theorem qt_len:∀s:List UInt8,(qt s).length≤2*s.length
  | []=>by simp[qt]
  | c::s=>by
    have:=qb_len c
    have:=qt_len s
    rw[qt_cons,List.length_append,List.length_cons];omega
theorem wb (n:Nat) (b:List UInt8) {c:Int} {u:UInt8} (hc:c=(u.toNat:Int)) (hl:b.length≤100000000000000):strings_Builder_WriteByte (n+1) b c=some (false,b++[u]):=by
  have h1:=u.toNat_lt
  rw[strings_Builder_WriteByte_eq,gWriteByte,tif_ite,if_pos (by simp;omega),hc]
  simp
theorem wst (n:Nat) (b s:List UInt8) (hl:b.length+s.length≤100000000000000):strings_Builder_WriteString (n+1) b s=some ((s.length:Int),false,b++s):=by
  rw[strings_Builder_WriteString_eq,gWriteString,tfd,if_pos (by omega)]
theorem at_midI {s pre rest:List UInt8} {c:UInt8} {i:Int} (h:s=pre++c::rest) (hi:i=pre.length):at? (List.map (fun y=>(((UInt8.toNat y):Nat):Int)) s) i=some ((c.toNat:Nat):Int) :=
  at_mid (pre:=pre.map fun y=>(((UInt8.toNat y):Nat):Int)) (rest:=rest.map fun y=>(((UInt8.toNat y):Nat):Int)) (by rw[h];simp) (by simpa using hi)
theorem quote_l (n:Nat) (s:List UInt8) (hs:s.length≤1000000000000):∀(rest pre:List UInt8) (f:Nat) (b:List UInt8) (i:Int),s=pre++rest→i=pre.length→b.length+2*rest.length≤10000000000000 →
    label_quote_l2 (n+1) (f+rest.length+1) (b,List.map (fun y=>(((UInt8.toNat y):Nat):Int)) s,(s.length:Int),i,())=some (.inl (b++qt rest,())):=by
  intro rest
  induction rest with
  | nil =>
    intro pre f b i h hi hb
    rw[label_quote_l2_eq]
    simp only[tfd,if_neg (idxe h hi rfl)]
    simp[qt]
  | cons c rest ih =>
    intro pre f b i h hi hb
    rw[show f+(c::rest).length+1=(f+rest.length+1)+1 by simp;omega,label_quote_l2_eq]
    simp only[tfd,if_pos (idx h hi rfl)]
    rw[at_midI h hi,obs,idxw h hi (by omega)]
    simp only[List.length_cons] at hb
    have hc:=c.toNat_lt
    have e110:(110:Int)=(((110:UInt8).toNat:Nat):Int):=rfl
    have e92:(92:Int)=(((92:UInt8).toNat:Nat):Int):=rfl
    have hn:=fun (b':List UInt8) (hb':b'.length≤b.length+2)=>ih (pre++[c]) f b' (i+1) (idxl h) (idxs hi) (by omega)
    rw[qt_cons]
    unfold qb
    by_cases h10:c.toNat=10
    · rw[if_pos (show ((c.toNat:Nat):Int)=10 by omega),if_pos h10,wb n b e92 (by omega),obs,wb n _ e110 (by simp;omega),obs,hn _ (by simp)]
      simp
    rw[if_neg (show ¬((c.toNat:Nat):Int)=10 by omega),if_neg h10]
    by_cases h34:c.toNat=34
    · have q:((c.toNat:Nat):Int)=34:=by omega
      rw[if_pos q,if_pos q,if_pos h34,wb n b e92 (by omega),obs,wb n _ rfl (by simp;omega),obs,hn _ (by simp)]
      simp
    rw[if_neg (show ¬((c.toNat:Nat):Int)=34 by omega),if_neg h34]
    by_cases h92:c.toNat=92
    · rw[if_pos (show ((c.toNat:Nat):Int)=92 by omega),if_pos h92,wb n b e92 (by omega),obs,wb n _ rfl (by simp;omega),obs,hn _ (by simp)]
      simp
    · rw[if_neg (show ¬((c.toNat:Nat):Int)=92 by omega),if_neg h92,wb n b rfl (by omega),obs,hn _ (by simp)]
      simp
theorem lfu {k:Nat} (h:k≤1000000000000):loopFuel=(loopFuel-k-1)+k+1:=by unfold loopFuel;omega
theorem quote_val (n:Nat) (b s:List UInt8) (hs:s.length≤1000000000000) (hb:b.length≤1000000000000):label_quote (n+2) b s=some (b++[34]++qt s++[34]):=by
  rw[label_quote_eq]
  have e34:(34:Int)=(((34:UInt8).toNat:Nat):Int):=rfl
  rw[wb n b e34 (by omega),obs]
  have:=quote_l n s hs s [] (loopFuel-s.length-1) (b++[34]) 0 rfl rfl (by simp;omega)
  rw[←lfu hs] at this
  have e:(((List.length (List.map (fun y2=>(((UInt8.toNat y2):Nat):Int)) s)):Nat):Int)=(s.length:Int):=by simp
  rw[e]
  show obind (label_quote_l2 (n+1) loopFuel (b++[34],_)) _=_
  rw[this,obs,selim_inl]
  have:=qt_len s
  rw[wb n _ e34 (by simp;omega),obs]
def labT (x:Lab):List UInt8:=x.1++[61,34]++qt x.2++[34]
def bodyL:UInt8→List Lab→List UInt8
  | _,[]=>[]
  | c,x::r=>c::(labT x++bodyL 44 r)
def textL (l:List Lab):List UInt8:=bodyL 123 l++[125]
theorem chkL_len:∀(l:List Lab) (p:Option (List UInt8)),chkL p l→∀x∈l,x.1.length≤64∧x.2.length≤128
  | [],_,_,x,hx=>by cases hx
  | y::l,p,h,x,hx=>by
    rcases List.mem_cons.1 hx with rfl | hx
    · exact ⟨h.1.len,h.2.1⟩
    · exact chkL_len l _ h.2.2.2 x hx
theorem labT_len {x:Lab} (h:x.1.length≤64∧x.2.length≤128):(labT x).length≤400:=by
  have:=qt_len x.2
  unfold labT
  simp;omega
theorem bodyL_len:∀(l:List Lab) (c:UInt8),(∀x∈l,x.1.length≤64∧x.2.length≤128)→(bodyL c l).length≤401*l.length
  | [],_,_=>by simp[bodyL]
  | x::l,c,h=>by
    have h1:=labT_len (h x List.mem_cons_self)
    have h2:=bodyL_len l 44 fun y hy=>h y (List.mem_cons_of_mem _ hy)
    unfold bodyL
    simp;omega
theorem textL_len {l:List Lab} (h:LabOk l):(textL l).length≤10000:=by
  have h1:=bodyL_len l 123 (chkL_len l none h.c)
  have h2:=h.n1
  unfold textL
  simp;omega
theorem text_l (n:Nat) (l:List Lab) (hl:l.length≤16) (hx:∀x∈l,x.1.length≤64∧x.2.length≤128):∀(rest pre:List Lab) (f:Nat) (b:List UInt8) (a:UInt8) (i:Int),l=pre++rest→i=pre.length→b.length≤401*pre.length →
    label_Text_l7 (n+2) (f+rest.length+1) (b,((a.toNat:Nat):Int),l,(l.length:Int),i,())=some (.inl (b++bodyL a rest,())):=by
  intro rest
  induction rest with
  | nil =>
    intro pre f b a i h hi hb
    rw[label_Text_l7_eq]
    simp only[tfd,if_neg (idxe h hi rfl)]
    simp[bodyL]
  | cons x rest ih =>
    intro pre f b a i h hi hb
    have hlen:=congrArg List.length h
    simp at hlen
    have hx1:=hx x (by rw[h];simp)
    rw[show f+(x::rest).length+1=(f+rest.length+1)+1 by simp;omega,label_Text_l7_eq]
    simp only[tfd,if_pos (idx h hi rfl)]
    have e61:(61:Int)=(((61:UInt8).toNat:Nat):Int):=rfl
    have e44:(44:Int)=(((44:UInt8).toNat:Nat):Int):=rfl
    rw[at_mid h hi,obs,idxw h hi (by omega),wb (n+1) b rfl (by omega),obs,wst (n+1) _ _ (by simp;omega),obs,wb (n+1) _ e61 (by simp;omega),obs,
      quote_val n _ _ (by omega) (by simp;omega),obs,e44]
    have hq:=qt_len x.2
    rw[ih (pre++[x]) f _ 44 (i+1) (idxl h) (idxs hi) (by simp;omega)]
    simp[bodyL,labT]
theorem label_text (n:Nat) (l:List Lab):label_Text (n+7) l=some (if LabOk l then (textL l,0) else ([],8)):=by
  rw[label_Text_eq,label_check n l,obs]
  by_cases h:LabOk l
  · rw[if_pos h,if_pos h]
    simp only[decide_true,Bool.not_true,tif_ite,Bool.false_eq_true,if_false]
    have h1:=text_l (n+4) l h.n1 (chkL_len l none h.c) l [] (loopFuel-l.length-1) [] 123 0 rfl rfl (by simp)
    rw[←lfu (by have:=h.n1;omega)] at h1
    show obind (label_Text_l7 (n+6) loopFuel ([],(((123:UInt8).toNat:Nat):Int),l,(l.length:Int),0,())) _=_
    rw[h1,obs,selim_inl]
    have h2:=textL_len h
    have e125:(125:Int)=(((125:UInt8).toNat:Nat):Int):=rfl
    unfold textL at h2 ⊢
    simp at h2
    rw[wb (n+5) _ e125 (by simp;omega),obs,strings_Builder_String_eq,obs]
    simp
  · rw[if_neg h,if_neg h]
    rfl
def bodyT:List Lab→List UInt8
  | []=>[]
  | x::r=>labT x++bodyL 44 r
theorem index_some (sub:List UInt8) (hs:sub≠[]):∀(s:List UInt8) (i:Nat),Lib.index s sub=(i:Int)→∃t,s.drop i=sub++t∧i+sub.length≤s.length
  | [],i,h=>by
    unfold Lib.index at h
    have:sub.isEmpty=false:=by cases sub with | nil=>exact absurd rfl hs | cons=>rfl
    rw[this] at h
    simp at h
  | b::l,i,h=>by
    unfold Lib.index at h
    split at h
    · rename_i hp
      have h0:i=0:=by omega
      subst h0
      obtain ⟨t,ht⟩:=List.isPrefixOf_iff_prefix.1 hp
      have hl:=congrArg List.length ht
      simp at hl
      exact ⟨t,ht.symm,by simp;omega⟩
    · split at h
      · omega
      · have hge:=Lib.index_ge l sub
        obtain ⟨j,hj⟩:∃j:Nat,Lib.index l sub=(j:Int):=⟨(Lib.index l sub).toNat,by
          rename_i hne
          have:Lib.index l sub ≠ -1:=by simpa using hne
          omega⟩
        have hi:i=j+1:=by omega
        obtain ⟨t,h1,h2⟩:=index_some sub hs l j hj
        subst hi
        exact ⟨t,by simpa using h1,by simp;omega⟩
theorem index_at {a sub t:List UInt8} {c:UInt8} {r:List UInt8} (hs:sub=c::r) (ha:c ∉ a):Lib.index (a++(sub++t)) sub=(a.length:Int):=by
  refine Lib.index_first (by simp) ?_ fun j hj => ?_
  · unfold Lib.occAt
    rw[List.drop_left]
    exact List.isPrefixOf_iff_prefix.2 ⟨t,rfl⟩
  · cases ho:Lib.occAt (a++(sub++t)) sub j with
    | false=>rfl
    | true =>
      have:=Lib.occAt_head hs ho
      rw[List.getElem?_append_left hj] at this
      exact absurd (List.mem_of_getElem? this) ha
theorem index_no {s sub:List UInt8} {c:UInt8} {r:List UInt8} (hs:sub=c::r) (ha:c ∉ s):Lib.index s sub = -1:=by
  refine Lib.index_none fun j hj => ?_
  cases ho:Lib.occAt s sub j with
  | false=>rfl
  | true=>exact absurd (List.mem_of_getElem? (Lib.occAt_head hs ho)) ha
def cutV (s sep:List UInt8):List UInt8×(List UInt8×Bool) :=
  if 0≤Lib.index s sep then (s.take (Lib.index s sep).toNat,s.drop ((Lib.index s sep).toNat+sep.length),true) else (s,[],false)
theorem cut_val (n:Nat) (s sep:List UInt8) (hs:s.length≤1000000) (hsep:sep≠[]) (hl:sep.length≤100):strings_Cut (n+3) s sep=some (cutV s sep):=by
  rw[strings_Cut_eq,stringslite_Cut_eq,stringslite_Index_eq,gIndex,tfd,if_pos (by omega),obs]
  unfold cutV
  by_cases h:0≤Lib.index s sep
  · obtain ⟨i,hi⟩:∃i:Nat,Lib.index s sep=(i:Int):=⟨(Lib.index s sep).toNat,by omega⟩
    obtain ⟨t,_,h2⟩:=index_some sep hsep s i hi
    rw[if_pos h,hi,w64 (by omega) (by omega)]
    have c1:(decide ((0:Int)≤(i:Int))&&decide ((i:Int)≤((s.length:Nat):Int)))=true:=by simp;omega
    rw[c1]
    have e:Int.toNat ((i:Int)+((sep.length:Nat):Int))=i+sep.length:=by omega
    rw[e]
    simp only[tfd,tft]
    rw[if_pos (by omega),if_pos (by omega),if_pos h2,obs]
    simp
  · rw[if_neg h]
    simp only[tfd]
    rw[if_neg h,obs]
theorem cutV_len (s sep:List UInt8):(cutV s sep).1.length≤s.length∧(cutV s sep).2.1.length≤s.length:=by
  unfold cutV
  split
  · simp;omega
  · simp
theorem cutV_at {a t r:List UInt8} {c:UInt8} (ha:c ∉ a):cutV (a++((c::r)++t)) (c::r)=(a,t,true):=by
  unfold cutV
  rw[index_at rfl ha,if_pos (by omega),Int.toNat_natCast,List.take_left]
  have:(a++((c::r)++t)).drop (a.length+(c::r).length)=t:=by
    rw[←List.append_assoc,←List.length_append,List.drop_left]
  rw[this]
def cutP (c:UInt8):List UInt8→List UInt8×Bool
  | []=>([],false)
  | d::r=>if d=c then (r,true) else (d::r,false)
theorem cutp_val (n:Nat) (c:UInt8) (s:List UInt8):strings_CutPrefix (n+3) s [c]=some (cutP c s):=by
  rw[strings_CutPrefix_eq,stringslite_CutPrefix_eq,stringslite_HasPrefix_eq]
  cases s with
  | nil=>rfl
  | cons d r =>
    have c0:(((List.length [c]:Nat)):Int)≤(((d::r).length:Nat):Int):=by simp;omega
    have c1:(decide ((0:Int)≤((List.length [c]:Nat):Int))&&decide (((List.length [c]:Nat):Int)≤(((d::r).length:Nat):Int)))=true:=by
      have:(0:Int)≤(r.length:Int):=by omega
      simp
      omega
    have e1:Int.toNat ((List.length [c]:Nat):Int)=1:=rfl
    rw[c1,e1]
    simp only[tfd,tft]
    rw[if_pos c0,obs]
    by_cases h:d=c
    · subst h
      have q:cutP d (d::r)=(r,true):=by show (if d=d then (r,true) else (d::r,false))=_;rw[if_pos rfl]
      rw[q]
      simp[tif_ite]
    · have q:cutP c (d::r)=(d::r,false):=by show (if d=c then (r,true) else (d::r,false))=_;rw[if_neg h]
      rw[q]
      have:(List.drop 0 (List.take 1 (d::r))==[c])=false:=by simp[h]
      rw[this]
      rfl
theorem cutP_len (c:UInt8) (s:List UInt8):(cutP c s).1.length≤s.length:=by
  cases s with
  | nil=>simp[cutP]
  | cons d r =>
    show (if d=c then (r,true) else (d::r,false)).1.length≤_
    split<;>simp
def unq:List UInt8→Option (List UInt8×List UInt8)
  | []=>none
  | c :: r => if c.toNat = 34 then some ([], r) else if c.toNat = 10 then none else if c.toNat = 92 then
      (match r with
      | []=>none
      | d::r'=>if d.toNat=110 then (unq r').map (fun p=>(10::p.1,p.2)) else if d.toNat=34∨d.toNat=92 then (unq r').map (fun p=>(d::p.1,p.2)) else none)
    else (unq r).map (fun p=>(c::p.1,p.2))
theorem unq_34 {c:UInt8} (r:List UInt8) (h:c.toNat=34):unq (c::r)=some ([],r):=by unfold unq;rw[if_pos h]
theorem unq_10 {c:UInt8} (r:List UInt8) (h:c.toNat=10):unq (c::r)=none:=by unfold unq;rw[if_neg (by omega),if_pos h]
theorem unq_oth {c:UInt8} (r:List UInt8) (h:¬c.toNat=34) (h':¬c.toNat=10) (h'':¬c.toNat=92):unq (c::r)=(unq r).map (fun p=>(c::p.1,p.2)):=by
  conv=>lhs;unfold unq
  rw[if_neg h,if_neg h',if_neg h'']
theorem unq_92n {c:UInt8} (h:c.toNat=92):unq [c]=none:=by
  unfold unq
  rw[if_neg (by omega),if_neg (by omega),if_pos h]
theorem unq_92 {c d:UInt8} (r:List UInt8) (h:c.toNat=92):unq (c::d::r)=if d.toNat=110 then (unq r).map (fun p=>(10::p.1,p.2)) else if d.toNat=34∨d.toNat=92 then (unq r).map (fun p=>(d::p.1,p.2)) else none:=by
  conv=>lhs;unfold unq
  rw[if_neg (by omega),if_neg (by omega),if_pos h]
theorem unq_len:∀(k:Nat) (s:List UInt8),s.length≤k→∀p,unq s=some p→p.1.length≤s.length∧p.2.length≤s.length:=by
  intro k
  induction k with
  | zero =>
    intro s hs p h
    have:s=[]:=List.eq_nil_of_length_eq_zero (by omega)
    subst this
    cases h
  | succ k ih =>
    intro s hs p h
    cases s with
    | nil=>cases h
    | cons c r =>
      simp at hs
      unfold unq at h
      split at h
      · injection h with h;subst h;simp
      split at h
      · cases h
      split at h
      · cases r with
        | nil=>cases h
        | cons d r' =>
          simp at hs
          simp only at h
          split at h
          · obtain ⟨q,hq,rfl⟩:=Option.map_eq_some_iff.1 h
            have:=ih r' (by omega) q hq
            simp;omega
          split at h
          · obtain ⟨q,hq,rfl⟩:=Option.map_eq_some_iff.1 h
            have:=ih r' (by omega) q hq
            simp;omega
          · cases h
      · obtain ⟨q,hq,rfl⟩:=Option.map_eq_some_iff.1 h
        have:=ih r (by omega) q hq
        simp;omega
theorem unq_qt (r:List UInt8):∀v:List UInt8,unq (qt v++34::r)=some (v,r)
  | []=>unq_34 r (by decide)
  | c::v=>by
    rw[qt_cons]
    have ih:=unq_qt r v
    unfold qb
    by_cases h10:c.toNat=10
    · rw[if_pos h10]
      have hc:c=10:=UInt8.toNat_inj.1 h10
      show unq (92::(110::(qt v++34::r)))=_
      rw[unq_92 _ (by decide),if_pos (by decide),ih,hc];rfl
    rw[if_neg h10]
    by_cases h34:c.toNat=34
    · rw[if_pos h34]
      show unq (92::(c::(qt v++34::r)))=_
      rw[unq_92 _ (by decide),if_neg (by omega),if_pos (.inl h34),ih];rfl
    rw[if_neg h34]
    by_cases h92:c.toNat=92
    · rw[if_pos h92]
      show unq (92::(c::(qt v++34::r)))=_
      rw[unq_92 _ (by decide),if_neg (by omega),if_pos (.inr h92),ih];rfl
    · rw[if_neg h92]
      show unq (c::(qt v++34::r))=_
      rw[unq_oth _ h34 h10 h92,ih];rfl
theorem toB_one (b:List Int) (c:UInt8):toB (b++[((c.toNat:Nat):Int)])=toB b++[c]:=by simp[toB]
theorem drop_mid {s pre rest:List UInt8} {c:UInt8} {i:Int} (h:s=pre++c::rest) (hi:i=pre.length):List.drop (Int.toNat (i+1)) (List.take (List.length s) s)=rest:=by
  have e:Int.toNat (i+1)=(pre++[c]).length:=by simp;omega
  rw[List.take_length,e,h,show pre++c::rest=(pre++[c])++rest by simp,List.drop_left]
theorem unquote_l (n:Nat) (s:List UInt8) (hs:s.length≤1000000):∀(k:Nat) (rest pre:List UInt8) (f:Nat) (b:List Int) (i:Int),rest.length≤k→k≤f→s=pre++rest→i=pre.length→b.length≤pre.length →
    ∃z,label_unquote_l3 n (f+1) (s,b,i,())=some z∧(selim (fun _=>some ([],([],false))) (fun z=>some z) z:Option (List UInt8×(List UInt8×Bool)))=some (match unq rest with | some p=>(toB b++p.1,p.2,true) | none=>([],[],false)):=by
  intro k
  induction k with
  | zero =>
    intro rest pre f b i hr hf h hi hb
    have:rest=[]:=List.eq_nil_of_length_eq_zero (by omega)
    subst this
    rw[label_unquote_l3_eq]
    simp only[tfd,if_neg (idxe h hi rfl)]
    exact ⟨_,rfl,rfl⟩
  | succ k ih =>
    intro rest pre f b i hr hf h hi hb
    cases rest with
    | nil =>
      rw[label_unquote_l3_eq]
      simp only[tfd,if_neg (idxe h hi rfl)]
      exact ⟨_,rfl,rfl⟩
    | cons c rest =>
      have hlen:=congrArg List.length h
      simp at hlen hr
      obtain ⟨f,rfl⟩:∃g,f=g+1:=⟨f-1,by omega⟩
      rw[label_unquote_l3_eq]
      simp only[tfd,if_pos (idx h hi rfl)]
      rw[at_mid h hi,obs,idxw h hi (by omega),drop_mid h hi]
      have e1:Int.toNat (i+1)=pre.length+1:=by omega
      by_cases h34:c.toNat=34
      · rw[if_pos (show ((c.toNat:Nat):Int)=34 by omega),unq_34 _ h34,if_pos (by omega),if_pos (by omega)]
        exact ⟨_,rfl,by simp[toB]⟩
      rw[if_neg (show ¬((c.toNat:Nat):Int)=34 by omega)]
      by_cases h10:c.toNat=10
      · rw[if_pos (show ((c.toNat:Nat):Int)=10 by omega),unq_10 _ h10]
        exact ⟨_,rfl,rfl⟩
      rw[if_neg (show ¬((c.toNat:Nat):Int)=10 by omega)]
      by_cases h92:c.toNat=92
      · have q:decide (((c.toNat:Nat):Int)=92)=true:=by simp;omega
        rw[q]
        simp only[Bool.not_true,tif_ite,Bool.false_eq_true,if_false]
        cases rest with
        | nil =>
          have q2:i+1=(s.length:Int):=by simp at hlen;omega
          rw[if_pos q2,unq_92n h92]
          exact ⟨_,rfl,rfl⟩
        | cons d rest =>
          simp at hlen hr
          have q2:¬(i+1=(s.length:Int)):=by omega
          have h':s=(pre++[c])++d::rest:=by rw[h];simp
          have hi':i+1=((pre++[c]).length:Int):=by simp;omega
          rw[unq_92 _ h92,if_neg q2,at_mid h' hi',obs,idxw h' hi' (by omega)]
          have hn:=fun (b':List Int) (hb':b'.length=b.length+1)=>ih rest ((pre++[c])++[d]) f b' (i+1+1) (by omega) (by omega) (by rw[h'];simp) (by simp;omega) (by simp;omega)
          by_cases k110:d.toNat=110
          · rw[if_pos (show ((d.toNat:Nat):Int)=110 by omega),if_pos (by omega)]
            obtain ⟨z,z1,z2⟩:=hn (b++[10]) (by simp)
            refine ⟨z,z1,?_⟩
            rw[z2,if_pos k110]
            cases unq rest with
            | none=>rfl
            | some p=>simp[toB]
          rw[if_neg (show ¬((d.toNat:Nat):Int)=110 by omega)]
          simp only[if_neg k110]
          by_cases k34:d.toNat=34
          · have q3:((d.toNat:Nat):Int)=34:=by omega
            rw[if_pos q3,if_pos q3,obs,if_pos (by omega)]
            obtain ⟨z,z1,z2⟩:=hn (b++[((d.toNat:Nat):Int)]) (by simp)
            refine ⟨z,z1,?_⟩
            rw[z2,if_pos (.inl k34),toB_one]
            cases unq rest with
            | none=>rfl
            | some p=>simp
          rw[if_neg (show ¬((d.toNat:Nat):Int)=34 by omega)]
          by_cases k92:d.toNat=92
          · rw[if_pos (show ((d.toNat:Nat):Int)=92 by omega),obs,if_pos (by omega)]
            obtain ⟨z,z1,z2⟩:=hn (b++[((d.toNat:Nat):Int)]) (by simp)
            refine ⟨z,z1,?_⟩
            rw[z2,if_pos (.inr k92),toB_one]
            cases unq rest with
            | none=>rfl
            | some p=>simp
          · rw[if_neg (show ¬((d.toNat:Nat):Int)=92 by omega),if_neg (fun q=>by rcases q with q | q<;>omega)]
            exact ⟨_,rfl,rfl⟩
      · rw[unq_oth _ h34 h10 h92]
        have q:decide (((c.toNat:Nat):Int)=92)=false:=by simp;omega
        rw[q]
        simp only[Bool.not_false,tif_ite,if_true]
        rw[if_pos (by omega)]
        obtain ⟨z,z1,z2⟩:=ih rest (pre++[c]) f (b++[((c.toNat:Nat):Int)]) (i+1) (by omega) (by omega) (idxl h) (idxs hi) (by simp;omega)
        refine ⟨z,z1,?_⟩
        rw[z2,toB_one]
        cases unq rest with
        | none=>rfl
        | some p=>simp
theorem unquote_val (n:Nat) (s:List UInt8) (hs:s.length≤1000000):label_unquote (n+1) s=some (match unq s with | some p=>(p.1,p.2,true) | none=>([],[],false)):=by
  rw[label_unquote_eq]
  obtain ⟨z,z1,z2⟩:=unquote_l n s hs s.length s [] (loopFuel-1) [] 0 (Nat.le_refl _) (by unfold loopFuel;omega) rfl rfl (by simp)
  rw[show loopFuel-1+1=loopFuel by unfold loopFuel;omega] at z1
  rw[z1,obs]
  refine (Eq.trans ?_ z2).trans ?_
  · cases z<;>rfl
  · cases unq s<;>rfl
theorem NameOk.no {s:List UInt8} (h:NameOk s) {c:UInt8} (hc:¬sgn ((c.toNat:Nat):Int)):c ∉ s:=by
  intro hm
  match s,h with
  | b::r,h=>exact hc (h.2.2 c hm)
theorem chkL_name:∀(l:List Lab) (p:Option (List UInt8)),chkL p l→∀x∈l,NameOk x.1
  | [],_,_,x,hx=>by cases hx
  | y::l,p,h,x,hx=>by
    rcases List.mem_cons.1 hx with rfl | hx
    · exact h.1
    · exact chkL_name l _ h.2.2.2 x hx
theorem parse_tot (n:Nat):∀(k f:Nat) (rest:List UInt8) (ok:Bool) (out:List Lab),17-out.length≤k→out.length≤17→rest.length≤100000 →
    ∃y:List UInt8×(Bool×(List Lab×Unit)),label_Parse_l3 (n+3) (f+k+1) (rest,ok,out,())=some (.inl y):=by
  intro k
  induction k with
  | zero =>
    intro f rest ok out hk ho hr
    rw[label_Parse_l3_eq]
    simp only[tif_ite,decide_eq_true_eq]
    by_cases h1:ok=true
    · rw[if_pos h1]
      by_cases h2:(!(rest==[125]))=true
      · rw[if_pos h2,if_neg (by omega)];exact ⟨_,rfl⟩
      · rw[if_neg h2];exact ⟨_,rfl⟩
    · rw[if_neg h1];exact ⟨_,rfl⟩
  | succ k ih =>
    intro f rest ok out hk ho hr
    rw[show f+(k+1)+1=(f+k+1)+1 by omega,label_Parse_l3_eq]
    simp only[tif_ite,decide_eq_true_eq]
    by_cases h1:ok=true
    · rw[if_pos h1]
      by_cases h2:(!(rest==[125]))=true
      · rw[if_pos h2]
        by_cases h3:((out.length:Nat):Int)≤16
        · rw[if_pos h3]
          have step:∀s:List UInt8,s.length≤100000→∃y:List UInt8×(Bool×(List Lab×Unit)),(obind (strings_Cut (n+3) s [61,34]) fun r1=>obind (label_unquote (n+3) r1.2.1) fun r2 =>
              if (out.length+1)*32≤140737488355328 then (if r1.2.2=true then label_Parse_l3 (n+3) (f+k+1) (r2.2.1,(r2.2.2,((out++((r1.1,r2.1)::[])),()))) else label_Parse_l3 (n+3) (f+k+1) (r2.2.1,(false,((out++((r1.1,r2.1)::[])),())))) else none)=some (.inl y):=by
            intro s hs
            obtain ⟨hc1,hc2⟩:=cutV_len s [61,34]
            rw[cut_val n s _ (by omega) (by simp) (by simp),obs,unquote_val (n+2) _ (by omega),obs,if_pos (by omega)]
            have hu:(match unq (cutV s [61,34]).2.1 with | some p=>(p.1,p.2,true) | none=>(([]:List UInt8),([]:List UInt8),false)).2.1.length≤100000:=by
              cases hq:unq (cutV s [61,34]).2.1 with
              | none=>simp
              | some p=>have:=(unq_len _ _ (Nat.le_refl _) p hq).2;simp;omega
            split
            · exact ih f _ _ _ (by simp;omega) (by simp;omega) hu
            · exact ih f _ _ _ (by simp;omega) (by simp;omega) hu
          by_cases h4:0<((out.length:Nat):Int)
          · rw[if_pos h4,cutp_val n 44 rest,obs]
            by_cases h5:(!(cutP 44 rest).2)=true
            · rw[if_pos h5];exact ⟨_,rfl⟩
            · rw[if_neg h5]
              exact step _ (by have:=cutP_len 44 rest;omega)
          · rw[if_neg h4]
            exact step _ hr
        · rw[if_neg h3];exact ⟨_,rfl⟩
      · rw[if_neg h2];exact ⟨_,rfl⟩
    · rw[if_neg h1];exact ⟨_,rfl⟩
theorem parse_l (n:Nat) (l:List Lab) (hl:l.length≤16) (hx:∀x∈l,NameOk x.1∧x.1.length≤64∧x.2.length≤128):∀(rest pre:List Lab) (f:Nat),l=pre++rest→(pre=[]→rest≠[]) →
    label_Parse_l3 (n+3) (f+rest.length+1) ((if pre=[] then bodyT rest else bodyL 44 rest)++[125],true,pre,())=some (.inl ([125],true,l,())):=by
  intro rest
  induction rest with
  | nil =>
    intro pre f h hp
    have hp':pre≠[]:=fun q=>hp q rfl
    obtain rfl:l=pre:=by simpa using h
    rw[label_Parse_l3_eq,if_neg hp']
    simp[bodyL,tif_ite]
  | cons x rest ih =>
    intro pre f h hp
    have hlen:=congrArg List.length h
    simp at hlen
    obtain ⟨hn,h64,h128⟩:=hx x (by rw[h];simp)
    have h61:(61:UInt8) ∉ x.1:=hn.no (by decide)
    have hb:(bodyL 44 rest).length≤401*rest.length:=bodyL_len rest 44 fun y hy=>(hx y (by rw[h];simp[hy])).2
    have hq:=qt_len x.2
    rw[show f+(x::rest).length+1=(f+rest.length+1)+1 by simp;omega,label_Parse_l3_eq]
    have hnext:=ih (pre++[x]) f (by rw[h];simp) (by simp)
    rw[if_neg (by simp)] at hnext
    have step:(obind (strings_Cut (n+3) (labT x++bodyL 44 rest++[125]) [61,34]) fun r1=>obind (label_unquote (n+3) r1.2.1) fun r2 =>
        if (pre.length+1)*32≤140737488355328 then (if r1.2.2=true then label_Parse_l3 (n+3) (f+rest.length+1) (r2.2.1,(r2.2.2,((pre++((r1.1,r2.1)::[])),()))) else label_Parse_l3 (n+3) (f+rest.length+1) (r2.2.1,(false,((pre++((r1.1,r2.1)::[])),())))) else none)=some (.inl ([125],true,l,())):=by
      have e:labT x++bodyL 44 rest++[125]=x.1++([61,34]++(qt x.2++34::(bodyL 44 rest++[125]))):=by simp[labT]
      rw[cut_val n _ _ (by rw[e];simp;omega) (by simp) (by simp),obs,e,cutV_at h61]
      simp only
      rw[unquote_val (n+2) _ (by simp;omega),obs,unq_qt,if_pos (by omega),if_pos trivial]
      exact hnext
    have hne:∀c:List UInt8,2≤c.length→(!(c==[125]))=true:=by
      intro c hc
      have:(c==[125])=false:=by
        cases hq:(c==[125]) with
        | false=>rfl
        | true=>have:=eq_of_beq hq;subst this;simp at hc
      rw[this];rfl
    simp only[tif_ite,decide_eq_true_eq,if_true]
    by_cases hp0:pre=[]
    · rw[if_pos hp0,if_pos (hne _ (by simp[bodyT,labT];omega)),if_pos (by omega),if_neg (by rw[hp0];simp)]
      exact step
    · have hpl:0<pre.length:=List.length_pos_iff.2 hp0
      rw[if_neg hp0,if_pos (hne _ (by simp[bodyL,labT];omega)),if_pos (by omega),if_pos (by omega),cutp_val n 44,obs]
      have q:cutP 44 (bodyL 44 (x::rest)++[125])=(labT x++bodyL 44 rest++[125],true):=by
        show (if (44:UInt8)=44 then ((labT x++bodyL 44 rest)++[125],true) else (44::((labT x++bodyL 44 rest)++[125]),false))=_
        rw[if_pos rfl]
      rw[q]
      simp only[Bool.not_true,Bool.false_eq_true,if_false]
      exact step
theorem label_parse_tot (n:Nat) (s:List UInt8) (hs:s.length≤100000):∃r:List Lab×Int,label_Parse (n+7) s=some r∧((r.2=0∧LabOk r.1)∨r=([],4)):=by
  rw[label_Parse_eq,cutp_val (n+3) 123 s,obs]
  obtain ⟨y,hy⟩:=parse_tot (n+3) 17 (loopFuel-18) (cutP 123 s).1 (cutP 123 s).2 [] (by simp) (by simp) (by have:=cutP_len 123 s;omega)
  rw[show loopFuel-18+17+1=loopFuel by unfold loopFuel;omega] at hy
  rw[hy,obs,selim_inl,label_check n y.2.2.1,obs]
  simp only[tif_ite]
  by_cases h1:(!y.2.1)=true
  · rw[if_pos h1];exact ⟨_,rfl,.inr rfl⟩
  rw[if_neg h1]
  by_cases h2:(!(y.1==[125]))=true
  · rw[if_pos h2];exact ⟨_,rfl,.inr rfl⟩
  rw[if_neg h2]
  by_cases h3:LabOk y.2.2.1
  · rw[if_pos h3];exact ⟨_,rfl,.inl ⟨rfl,h3⟩⟩
  · rw[if_neg h3];exact ⟨_,rfl,.inr rfl⟩
theorem bodyL_ne {l:List Lab} (h:l≠[]) (c:UInt8):bodyL c l=c::bodyT l:=by
  cases l with
  | nil=>exact absurd rfl h
  | cons x r=>rfl
theorem LabOk.ne {l:List Lab} (h:LabOk l):l≠[]:=by
  intro q;subst q;have:=h.n0;simp at this
theorem label_parse_text (n:Nat) {l:List Lab} (h:LabOk l):label_Parse (n+7) (textL l)=some (l,0):=by
  rw[label_Parse_eq,cutp_val (n+3) 123,obs]
  have q:cutP 123 (textL l)=(bodyT l++[125],true):=by
    unfold textL
    rw[bodyL_ne h.ne]
    show (if (123:UInt8)=123 then (bodyT l++[125],true) else (123::(bodyT l++[125]),false))=_
    rw[if_pos rfl]
  have hp:=parse_l (n+3) l h.n1 (fun x hx=>⟨chkL_name l none h.c x hx,chkL_len l none h.c x hx⟩) l [] (loopFuel-l.length-1) rfl (fun _=>h.ne)
  rw[←lfu (by have:=h.n1;omega),if_pos rfl] at hp
  rw[q]
  show obind (label_Parse_l3 (n+6) loopFuel (bodyT l++[125],true,[],())) _=_
  rw[hp,obs,selim_inl,label_check n l,obs,if_pos h]
  simp[tif_ite]
end Go.Proofs.YtgcaeappeolhjaaDoor

namespace Go.Plim
set_option linter.unusedVariables false
def tz:Nat→Nat→Nat
  | 0,_=>0
  | k+1,x=>if x % 2=1 then 0 else tz k (x / 2)+1
theorem tz_odd (k x:Nat) (h:x % 2=1):tz k x=0:=by cases k<;>simp[tz,h]
theorem tz_spec:∀(k x:Nat),0<x→x<2^k→tz k x<k∧x=2^tz k x*(x / 2^tz k x)∧(x / 2^tz k x) % 2=1:=by
  intro k
  induction k with
  | zero=>intro x h0 h1;simp at h1;omega
  | succ k ih =>
    intro x h0 h1
    by_cases h:x % 2=1
    · rw[tz_odd (k+1) x h]
      simp[h]
    · have e:tz (k+1) x=tz k (x / 2)+1:=by simp[tz,h]
      rw[Nat.pow_succ] at h1
      obtain ⟨a1,a2,a3⟩:=ih (x / 2) (by omega) (by omega)
      rw[e,Nat.pow_succ,Nat.mul_comm (2^tz k (x / 2)) 2,←Nat.div_div_eq_div_mul]
      refine ⟨by omega,?_,a3⟩
      rw[Nat.mul_assoc,←a2]
      omega
def bl:Nat→Nat→Nat
  | 0,_=>0
  | k+1,x=>if x=0 then 0 else bl k (x / 2)+1
theorem bl_zero (k:Nat):bl k 0=0:=by cases k<;>simp[bl]
theorem bl_spec:∀(k x:Nat),x<2^k→x<2^bl k x∧(0<x→0<bl k x∧2^(bl k x-1)≤x)∧bl k x≤k:=by
  intro k
  induction k with
  | zero=>intro x h;simp[bl] at *;omega
  | succ k ih =>
    intro x h
    by_cases h0:x=0
    · subst h0;rw[bl_zero];simp
    · have e:bl (k+1) x=bl k (x / 2)+1:=by simp[bl,h0]
      rw[Nat.pow_succ] at h
      obtain ⟨a1,a2,a3⟩:=ih (x / 2) (by omega)
      rw[e]
      refine ⟨by rw[Nat.pow_succ];omega,fun _=>⟨by omega,?_⟩,by omega⟩
      rw[Nat.add_sub_cancel]
      by_cases h1:x / 2=0
      · rw[h1,bl_zero];simp;omega
      · obtain ⟨b1,b2⟩:=a2 (by omega)
        have:2^bl k (x / 2)=2^(bl k (x / 2)-1)*2:=by rw[←Nat.pow_succ];congr 1;omega
        omega
theorem bl_unique {k x b:Nat} (h:x<2^k) (h0:0<x) (h1:2^b≤x) (h2:x<2^(b+1)):bl k x=b+1:=by
  obtain ⟨a1,a2,_⟩:=bl_spec k x h
  obtain ⟨c1,c2⟩:=a2 h0
  have d1:b<bl k x:=by
    rcases Nat.lt_or_ge b (bl k x) with q | q
    · exact q
    · have:=Nat.pow_le_pow_right (show 0<2 by decide) q;omega
  have d2:bl k x-1<b+1:=by
    rcases Nat.lt_or_ge (bl k x-1) (b+1) with q | q
    · exact q
    · have:=Nat.pow_le_pow_right (show 0<2 by decide) q;omega
  omega
end Go.Plim

namespace Go.Plim
set_option linter.unusedVariables false
def ndF:Nat→Nat→Nat
  | 0,_=>1
  | f+1,u=>if u<10 then 1 else ndF f (u / 10)+1
def ndg (u:Nat):Nat:=ndF 64 u
def dgs:Nat→Nat→List Int
  | _,0=>[]
  | u,k+1=>dgs (u / 10) k++[((48+u % 10:Nat):Int)]
def decI (u:Nat):List Int:=dgs u (ndg u)
def itoI (z:Int):List Int:=if z<0 then 45::decI z.natAbs else decI z.toNat
theorem dgs_len:∀(k u:Nat),(dgs u k).length=k:=by
  intro k
  induction k with
  | zero=>intro u;rfl
  | succ k ih=>intro u;simp[dgs,ih]
theorem dgs_get:∀(k u j:Nat),j<k→(dgs u k)[j]? = some ((48+u / 10^(k-1-j) % 10:Nat):Int):=by
  intro k
  induction k with
  | zero=>intro u j h;omega
  | succ k ih =>
    intro u j h
    simp only[dgs]
    by_cases hj:j<k
    · rw[List.getElem?_append_left (by rw[dgs_len];exact hj),ih _ _ hj,Nat.div_div_eq_div_mul]
      have:k+1-1-j=k-1-j+1:=by omega
      rw[this,Nat.pow_succ,Nat.mul_comm]
    · have:j=k:=by omega
      subst this
      rw[List.getElem?_append_right (by rw[dgs_len];exact Nat.le_refl _),dgs_len]
      simp
theorem dgs_of {l:List Int} {u k:Nat} (hl:l.length=k) (h:∀j,j<k→l[j]? = some ((48+u / 10^(k-1-j) % 10:Nat):Int)):l=dgs u k:=by
  apply List.ext_getElem?
  intro j
  by_cases hj:j<k
  · rw[h j hj,dgs_get k u j hj]
  · rw[List.getElem?_eq_none (by omega),List.getElem?_eq_none (by rw[dgs_len];omega)]
theorem dgs_range:∀(k u:Nat),∀x∈dgs u k,48≤x∧x≤57:=by
  intro k
  induction k with
  | zero=>intro u x hx;cases hx
  | succ k ih =>
    intro u x hx
    simp only[dgs,List.mem_append,List.mem_singleton] at hx
    rcases hx with hx | hx
    · exact ih _ x hx
    · subst hx;omega
theorem ndF_of:∀(d f u:Nat),d<f→(0<d→10^d≤u)→u<10^(d+1)→ndF f u=d+1:=by
  intro d
  induction d with
  | zero =>
    intro f u hf _ h
    obtain ⟨g,rfl⟩:∃g,f=g+1:=⟨f-1,by omega⟩
    simp only[ndF]
    rw[if_pos (by simpa using h)]
  | succ d ih =>
    intro f u hf h1 h2
    obtain ⟨g,rfl⟩:∃g,f=g+1:=⟨f-1,by omega⟩
    have h1:=h1 (by omega)
    have hp:1≤10^d:=Nat.one_le_pow _ _ (by omega)
    have e:10^(d+1)=10*10^d:=by rw[Nat.pow_succ,Nat.mul_comm]
    have e2:10^(d+1+1)=10*10^(d+1):=by rw[Nat.pow_succ,Nat.mul_comm]
    simp only[ndF]
    rw[if_neg (by omega),ih g (u / 10) (by omega) (fun _=>by rw[Nat.le_div_iff_mul_le (by omega)];omega) (by rw[Nat.div_lt_iff_lt_mul (by omega)];omega)]
theorem ndg_of {d u:Nat} (hd:d<64) (h1:0<d→10^d≤u) (h2:u<10^(d+1)):ndg u=d+1:=ndF_of d 64 u hd h1 h2
def lgt (b:Nat):Nat:=b*78913 / 262144
theorem lgt_all:((List.range 65).all fun b=>decide (b=0)||(decide (2^b≤10^(lgt b+1))&&(decide (lgt b=0)||decide (10^(lgt b-1)≤2^(b-1)))))=true:=by decide +kernel
theorem lgt_at {b:Nat} (h:b≤64) (h0:0<b):2^b≤10^(lgt b+1)∧(0<lgt b→10^(lgt b-1)≤2^(b-1)):=by
  have:=List.all_eq_true.1 lgt_all b (List.mem_range.2 (by omega))
  simp only[Bool.or_eq_true,Bool.and_eq_true,decide_eq_true_eq] at this
  rcases this with h1 | ⟨h1,h2⟩
  · omega
  · exact ⟨h1,fun h3=>h2.resolve_left (by omega)⟩
theorem lgt_lt {b:Nat} (h:b≤64):lgt b<20:=by
  unfold lgt;omega
theorem ndg_bl {u:Nat} (h0:0<u) (h:u<18446744073709551616):ndg u=lgt (bl 64 u)+if 10^lgt (bl 64 u)≤u then 1 else 0:=by
  obtain ⟨b1,b2,b3⟩:=bl_spec 64 u h
  obtain ⟨b2,b4⟩:=b2 h0
  obtain ⟨l1,l2⟩:=lgt_at b3 b2
  have l3:=lgt_lt b3
  split
  · rename_i hle
    exact ndg_of (by omega) (fun _=>hle) (by omega)
  · rename_i hle
    have hpos:0<lgt (bl 64 u):=by
      rcases Nat.eq_zero_or_pos (lgt (bl 64 u)) with e | e
      · rw[e] at hle;simp at hle;omega
      · exact e
    have:=l2 hpos
    have e:lgt (bl 64 u)-1+1=lgt (bl 64 u):=by omega
    have:=ndg_of (d:=lgt (bl 64 u)-1) (u:=u) (by omega) (fun _=>by omega) (by rw[e];omega)
    omega
theorem ndg_small {u:Nat} (h:u<10):ndg u=1:=ndg_of (by omega) (fun h=>by omega) (by simpa using h)
theorem ndF_up:∀(f u:Nat),u<10^(f+1)→∀g,f≤g→ndF g u=ndF f u:=by
  intro f
  induction f with
  | zero=>intro u h g _;cases g with
    | zero=>rfl
    | succ g=>simp only[ndF];rw[if_pos (by simpa using h)]
  | succ f ih =>
    intro u h g hg
    obtain ⟨k,rfl⟩:∃k,g=k+1:=⟨g-1,by omega⟩
    simp only[ndF]
    split
    · rfl
    · rw[ih (u / 10) (by rw[Nat.div_lt_iff_lt_mul (by omega)];rw[Nat.pow_succ] at h;exact h) k (by omega)]
theorem ndg_step {u:Nat} (h:10≤u) (hu:u<10^63):ndg u=ndg (u / 10)+1:=by
  unfold ndg
  conv=>lhs;unfold ndF
  rw[if_neg (by omega),ndF_up 63 (u / 10) (Nat.lt_of_le_of_lt (Nat.div_le_self _ _) (Nat.lt_of_lt_of_le hu (Nat.pow_le_pow_right (by omega) (by omega)))) 64 (by omega)]
theorem decI_small {u:Nat} (h:u<10):decI u=[((48+u:Nat):Int)]:=by
  unfold decI;rw[ndg_small h];simp only[dgs,List.nil_append];rw[Nat.mod_eq_of_lt h]
theorem decI_step {u:Nat} (h:10≤u) (hu:u<10^63):decI u=decI (u / 10)++[((48+u % 10:Nat):Int)]:=by
  unfold decI;rw[ndg_step h hu];rfl
theorem ndg_le {u:Nat} (h:u<18446744073709551616):ndg u≤20:=by
  rcases Nat.eq_zero_or_pos u with e | e
  · subst e;decide
  · rw[ndg_bl e h]
    have:=lgt_lt (bl_spec 64 u h).2.2
    split<;>omega
theorem ndg_hi {u:Nat} (h:u<18446744073709551616):u<10^ndg u:=by
  rcases Nat.eq_zero_or_pos u with e | e
  · subst e;exact Nat.pow_pos (by omega)
  · obtain ⟨b1,b2,b3⟩:=bl_spec 64 u h
    obtain ⟨b2,b4⟩:=b2 e
    obtain ⟨l1,l2⟩:=lgt_at b3 b2
    rw[ndg_bl e h]
    split
    · omega
    · rename_i hle;simpa using hle
theorem ndg_pos (u:Nat):0<ndg u:=by
  unfold ndg ndF;split<;>omega
theorem decI_range (u:Nat):∀x∈decI u,48≤x∧x≤57:=dgs_range _ _
end Go.Plim

namespace Go.Plim
set_option linter.unusedVariables false
def ofN (x:Nat):Wd:=(((x / 18446744073709551616:Nat):Int),((x % 18446744073709551616:Nat):Int))
end Go.Plim

namespace Go.Plim
set_option linter.unusedVariables false
theorem bl_shift {k x s:Nat} (h:x<2^k) (hs:2^s≤x):bl k x=s+bl k (x / 2^s):=by
  have hp:=Nat.two_pow_pos s
  have h0:0<x / 2^s:=Nat.div_pos hs hp
  have h1:x / 2^s<2^k:=Nat.lt_of_le_of_lt (Nat.div_le_self _ _) h
  obtain ⟨a1,a2,a3⟩:=bl_spec k (x / 2^s) h1
  obtain ⟨b1,b2⟩:=a2 h0
  obtain ⟨c,hc⟩:∃c,bl k (x / 2^s)=c+1:=⟨bl k (x / 2^s)-1,by omega⟩
  rw[hc] at a1 b2 ⊢
  rw[Nat.add_sub_cancel] at b2
  rw[←Nat.add_assoc]
  refine bl_unique h (by omega) ?_ ?_
  · rw[Nat.pow_add,Nat.mul_comm]
    exact (Nat.le_div_iff_mul_le hp).1 b2
  · rw[Nat.add_assoc,Nat.pow_add,Nat.mul_comm]
    exact (Nat.div_lt_iff_lt_mul hp).1 a1
end Go.Plim

namespace Go.Proofs.YtgcaeappeolhjaaDoor
open Go.Flat Go.Plim
set_option linter.unusedVariables false
set_option linter.unusedSimpArgs false
theorem shrN (x k:Nat) (hk:k≤64):shrI .u64 (x:Int) (k:Int)=((x / 2^k:Nat):Int):=by
  rw[shr_nat _ _ hk];simp
end Go.Proofs.YtgcaeappeolhjaaDoor
namespace Go.Proofs.YtgcaeappeolhjaaDoor
open Go.Flat Go.Plim
set_option linter.unusedVariables false
def lenT:List UInt8 :=
  bs_2753755
theorem len64_tree (n:Nat) (x:Int):math_bits_Len64 (n+1) x =
  tif ((decide ((4294967296:Int)≤x))) (
  tif ((decide ((65536:Int)≤(shrI .u64 x (32:Int))))) (
  tif ((decide ((256:Int)≤(shrI .u64 (shrI .u64 x (32:Int)) (16:Int))))) (
  obind (at? lenT (IntKind.wrap .u8 (shrI .u64 (shrI .u64 (shrI .u64 x (32:Int)) (16:Int)) (8:Int)))) fun r0 =>
  some (IntKind.wrap .i64 ((56:Int)+(IntKind.wrap .i64 (((UInt8.toNat r0):Nat):Int))))) (
  obind (at? lenT (IntKind.wrap .u8 (shrI .u64 (shrI .u64 x (32:Int)) (16:Int)))) fun r1 =>
  some (IntKind.wrap .i64 ((48:Int)+(IntKind.wrap .i64 (((UInt8.toNat r1):Nat):Int)))))) (
  tif ((decide ((256:Int)≤(shrI .u64 x (32:Int))))) (
  obind (at? lenT (IntKind.wrap .u8 (shrI .u64 (shrI .u64 x (32:Int)) (8:Int)))) fun r2 =>
  some (IntKind.wrap .i64 ((40:Int)+(IntKind.wrap .i64 (((UInt8.toNat r2):Nat):Int))))) (
  obind (at? lenT (IntKind.wrap .u8 (shrI .u64 x (32:Int)))) fun r3 =>
  some (IntKind.wrap .i64 ((32:Int)+(IntKind.wrap .i64 (((UInt8.toNat r3):Nat):Int))))))) (
  tif ((decide ((65536:Int)≤x))) (
  tif ((decide ((256:Int)≤(shrI .u64 x (16:Int))))) (
  obind (at? lenT (IntKind.wrap .u8 (shrI .u64 (shrI .u64 x (16:Int)) (8:Int)))) fun r4 =>
  some (IntKind.wrap .i64 ((24:Int)+(IntKind.wrap .i64 (((UInt8.toNat r4):Nat):Int))))) (
  obind (at? lenT (IntKind.wrap .u8 (shrI .u64 x (16:Int)))) fun r5 =>
  some (IntKind.wrap .i64 ((16:Int)+(IntKind.wrap .i64 (((UInt8.toNat r5):Nat):Int)))))) (
  tif ((decide ((256:Int)≤x))) (
  obind (at? lenT (IntKind.wrap .u8 (shrI .u64 x (8:Int)))) fun r6 =>
  some (IntKind.wrap .i64 ((8:Int)+(IntKind.wrap .i64 (((UInt8.toNat r6):Nat):Int))))) (
  obind (at? lenT (IntKind.wrap .u8 x)) fun r7 =>
  some (IntKind.wrap .i64 ((0:Int)+(IntKind.wrap .i64 (((UInt8.toNat r7):Nat):Int))))))):=math_bits_Len64_eq n x
theorem lenT_all:((List.range 256).all fun z=>match lenT[z]? with | some r=>decide (r.toNat=bl 64 z) | none=>false)=true:=by decide +kernel
end Go.Proofs.YtgcaeappeolhjaaDoor
namespace Go.Proofs.YtgcaeappeolhjaaDoor
open Go.Flat Go.Plim
set_option linter.unusedVariables false
set_option linter.unusedSimpArgs false
theorem lenT_at {z:Nat} (h:z<256):∃r,at? lenT (z:Int)=some r∧r.toNat=bl 64 z:=by
  have h1:=List.all_eq_true.1 lenT_all z (List.mem_range.2 h)
  split at h1
  · rename_i r hr
    refine ⟨r,?_,of_decide_eq_true h1⟩
    unfold at?
    rw[decide_eq_true (by omega)]
    exact hr
  · cases h1
theorem len_leaf {x s K:Nat} {I S:Int} (hK:K=2^s) (hI:I=((x / K:Nat):Int)) (hS:S=s) (h2:x / K<256) (h1:K≤x∨s=0) (hx:x<18446744073709551616) (hs:s≤56) :
    (obind (at? lenT (IntKind.wrap .u8 I)) fun r=>some (IntKind.wrap .i64 (S+IntKind.wrap .i64 (((UInt8.toNat r):Nat):Int))))=some ((bl 64 x:Nat):Int):=by
  obtain ⟨r,hr,hb⟩:=lenT_at h2
  have hle:=(bl_spec 64 (x / K) (Nat.lt_of_le_of_lt (Nat.div_le_self _ _) hx)).2.2
  have e:bl 64 x=s+bl 64 (x / K):=by
    rcases h1 with h1 | rfl
    · rw[hK] at h1 ⊢
      exact bl_shift hx h1
    · subst hK;simp
  rw[hI,e]
  generalize x / K=z at *
  rw[wu8 (by omega) (by omega),hr,obs,hb,w64 (x:=((bl 64 z:Nat):Int)) (by omega) (by omega),hS,w64 (by omega) (by omega)]
  congr 1
theorem len64_val (n:Nat) {x:Nat} (h:x<18446744073709551616):math_bits_Len64 (n+1) (x:Int)=some ((bl 64 x:Nat):Int):=by
  have s32:∀z:Nat,shrI .u64 (z:Int) (32:Int)=((z / 4294967296:Nat):Int):=fun z=>shrN z 32 (by decide)
  have s16:∀z:Nat,shrI .u64 (z:Int) (16:Int)=((z / 65536:Nat):Int):=fun z=>shrN z 16 (by decide)
  have s8:∀z:Nat,shrI .u64 (z:Int) (8:Int)=((z / 256:Nat):Int):=fun z=>shrN z 8 (by decide)
  have h':=h
  rw[len64_tree]
  simp only[s32,s16,s8,tfd]
  by_cases c5:4294967296≤x
  · rw[if_pos (by omega)]
    by_cases c4:65536≤x / 4294967296
    · rw[if_pos (by omega)]
      by_cases c3:256≤x / 4294967296 / 65536
      · rw[if_pos (by omega)]
        exact len_leaf (s:=56) (K:=72057594037927936) rfl (by omega) rfl (by omega) (.inl (by omega)) h (by decide)
      · rw[if_neg (by omega)]
        exact len_leaf (s:=48) (K:=281474976710656) rfl (by omega) rfl (by omega) (.inl (by omega)) h (by decide)
    · rw[if_neg (by omega)]
      by_cases c3:256≤x / 4294967296
      · rw[if_pos (by omega)]
        exact len_leaf (s:=40) (K:=1099511627776) rfl (by omega) rfl (by omega) (.inl (by omega)) h (by decide)
      · rw[if_neg (by omega)]
        exact len_leaf (s:=32) (K:=4294967296) rfl (by omega) rfl (by omega) (.inl (by omega)) h (by decide)
  · rw[if_neg (by omega)]
    by_cases c4:65536≤x
    · rw[if_pos (by omega)]
      by_cases c3:256≤x / 65536
      · rw[if_pos (by omega)]
        exact len_leaf (s:=24) (K:=16777216) rfl (by omega) rfl (by omega) (.inl (by omega)) h (by decide)
      · rw[if_neg (by omega)]
        exact len_leaf (s:=16) (K:=65536) rfl (by omega) rfl (by omega) (.inl (by omega)) h (by decide)
    · rw[if_neg (by omega)]
      by_cases c3:256≤x
      · rw[if_pos (by omega)]
        exact len_leaf (s:=8) (K:=256) rfl (by omega) rfl (by omega) (.inl (by omega)) h (by decide)
      · rw[if_neg (by omega)]
        exact len_leaf (s:=0) (K:=1) rfl (by omega) rfl (by omega) (.inr rfl) h (by decide)
theorem sm_all:((List.range 100).all fun x=>decide (at? bs_92989263 ((2*x:Nat):Int)=some (UInt8.ofNat (48+x / 10)))&&decide (at? bs_92989263 ((2*x+1:Nat):Int)=some (UInt8.ofNat (48+x % 10))))=true:=by decide +kernel
theorem wu32 {x:Nat} (h:x<4294967296):IntKind.wrap .u32 (x:Int)=x:=by
  rw[IntKind.wrap_u32];omega
theorem sm_hi {x:Nat} (h:x<100):at? bs_92989263 (IntKind.wrap .u32 ((x:Int)*(2:Int)))=some (UInt8.ofNat (48+x / 10)):=by
  have:=List.all_eq_true.1 sm_all x (List.mem_range.2 h)
  simp only[Bool.and_eq_true,decide_eq_true_eq] at this
  rw[show ((x:Int)*(2:Int))=((2*x:Nat):Int) by omega,wu32 (by omega)]
  exact this.1
theorem sm_lo {x:Nat} (h:x<100):at? bs_92989263 (IntKind.wrap .u32 ((IntKind.wrap .u32 ((x:Int)*(2:Int)))+(1:Int)))=some (UInt8.ofNat (48+x % 10)):=by
  have:=List.all_eq_true.1 sm_all x (List.mem_range.2 h)
  simp only[Bool.and_eq_true,decide_eq_true_eq] at this
  rw[show ((x:Int)*(2:Int))=((2*x:Nat):Int) by omega,wu32 (by omega),show ((2*x:Nat):Int)+1=((2*x+1:Nat):Int) by omega,wu32 (by omega)]
  exact this.2
theorem u8d {d:Nat} (h:d<10):((UInt8.toNat (UInt8.ofNat (48+d)):Nat):Int)=((48+d:Nat):Int):=by
  rw[UInt8.toNat_ofNat',Nat.mod_eq_of_lt (by simp;omega)]
theorem obind_const {α β:Type} {o:Option α} (h:∃y,o=some y) (z:Option β):(obind o fun _=>z)=z:=by
  obtain ⟨y,rfl⟩:=h;rfl
theorem at_tk {X:List Int} {len i:Nat} (h:i<len) (hX:len≤X.length):∃y,at? (List.take len (List.drop 0 X)) (i:Int)=some y:=by
  refine ⟨X[i]'(by omega),?_⟩
  unfold at?
  simp only[Int.natCast_nonneg,decide_true,cond_true,Int.toNat_natCast,List.drop_zero,List.getElem?_take,if_pos h]
  exact List.getElem?_eq_getElem (by omega)
theorem gi_tk {X:List Int} {i:Nat} (h:i<X.length):∃y,X[0+i]? = some y:=⟨X[i],by rw[Nat.zero_add];exact List.getElem?_eq_getElem h⟩
theorem tm100 (a:Nat):Int.tmod (a:Int) (100:Int)=((a % 100:Nat):Int):=by rw[tmod_nn (by omega)];omega
theorem tm10000 (a:Nat):Int.tmod (a:Int) (10000:Int)=((a % 10000:Nat):Int):=by rw[tmod_nn (by omega)];omega
theorem tm8 (a:Nat):Int.tmod (a:Int) (100000000:Int)=((a % 100000000:Nat):Int):=by rw[tmod_nn (by omega)];omega
theorem td100 (a:Nat):Int.tdiv (a:Int) (100:Int)=((a / 100:Nat):Int):=by rw[tdiv_nn (by omega)];omega
theorem td10000 (a:Nat):Int.tdiv (a:Int) (10000:Int)=((a / 10000:Nat):Int):=by rw[tdiv_nn (by omega)];omega
theorem td8 (a:Nat):Int.tdiv (a:Int) (100000000:Int)=((a / 100000000:Nat):Int):=by rw[tdiv_nn (by omega)];omega
theorem sub64 {k c:Nat} {z:Int} (hz:z=(c:Int)) (h:c≤k) (hk:k<1000):IntKind.wrap .i64 ((k:Int)-z)=((k-c:Nat):Int):=by
  subst hz
  rw[w64 (by omega) (by omega)];omega
theorem dig_at (U:Nat) {len k i:Nat} (hk:k≤len) (hi:i<k):U / 10^(len-1-(k-1-i))=U / 10^(len-k) / 10^i:=by
  rw[Nat.div_div_eq_div_mul,←Nat.pow_add]
  congr 2;omega
theorem dig_eq {a b:Nat} (h:a=b):(some ((48+a:Nat):Int))=some ((48+b:Nat):Int):=by rw[h]
theorem fb_l1 (n:Nat) {U len:Nat} (hlen:len≤24) (hU:U<18446744073709551616):∀(m f k:Nat) (L:List Int),k / 8=m→m<f→k≤len→len≤L.length →
    (∀j,k≤j→j<len→L[j]? = some ((48+U / 10^(len-1-j) % 10:Nat):Int)) →
    ∃L',strconv_formatBase10_l1 n f ((L,(0,len)),(((U / 10^(len-k):Nat):Int),((k:Int),())))=some (.inl ((L',(0,len)),(((U / 10^(len-k % 8):Nat):Int),(((k % 8:Nat):Int),())))) ∧
      L'.length=L.length∧∀j,k % 8≤j→j<len→L'[j]? = some ((48+U / 10^(len-1-j) % 10:Nat):Int):=by
  intro m
  induction m with
  | zero =>
    intro f k L hm hf hk hL hfill
    obtain ⟨g,rfl⟩:∃g,f=g+1:=⟨f-1,by omega⟩
    refine ⟨L,?_,rfl,?_⟩
    · rw[strconv_formatBase10_l1_eq]
      simp only[tfd]
      rw[if_neg (by omega),show k % 8=k by omega]
    · rw[show k % 8=k by omega];exact hfill
  | succ m ih =>
    intro f k L hm hf hk hL hfill
    obtain ⟨g,rfl⟩:∃g,f=g+1:=⟨f-1,by omega⟩
    have hk8:8≤k:=by omega
    have hv:U / 10^(len-k)<18446744073709551616:=Nat.lt_of_le_of_lt (Nat.div_le_self _ _) hU
    have hnext:U / 10^(len-(k-8))=U / 10^(len-k) / 100000000:=by
      rw[Nat.div_div_eq_div_mul,show len-(k-8)=len-k+8 by omega,Nat.pow_add]
    have hdig:∀i,i<k→U / 10^(len-1-(k-1-i))=U / 10^(len-k) / 10^i:=fun i hi=>dig_at U hk hi
    have IH:=fun L=>ih g (k-8) L (by omega) (by omega) (by omega)
    rw[hnext] at IH
    generalize hvv:U / 10^(len-k)=v at *
    rw[strconv_formatBase10_l1_eq]
    simp only[tfd]
    rw[if_pos (by omega)]
    have e1:IntKind.wrap .u32 (Int.tmod (v:Int) (100000000:Int))=((v % 100000000:Nat):Int):=by rw[tm8,wu32 (by omega)]
    rw[e1]
    generalize hx:v % 100000000=x
    have hx8:x<100000000:=by omega
    have e2:IntKind.wrap .u32 (Int.tdiv (x:Int) (10000:Int))=((x / 10000:Nat):Int):=by rw[td10000,wu32 (by omega)]
    rw[tm10000,e2]
    generalize hx10:x % 10000=x10
    generalize hx32:x / 10000=x32
    have e3:IntKind.wrap .u32 (Int.tdiv (x10:Int) (100:Int))=((x10 / 100:Nat):Int):=by rw[td100,wu32 (by omega)]
    have e4:IntKind.wrap .u32 (Int.tdiv (x32:Int) (100:Int))=((x32 / 100:Nat):Int):=by rw[td100,wu32 (by omega)]
    rw[e3,e4,tm100,tm100,td8,wu64 (x:=((v / 100000000:Nat):Int)) (by omega) (by omega)]
    have w1:=sub64 (k:=k) (c:=1) (z:=1) rfl (by omega) (by omega)
    have w2:=sub64 (k:=k) (c:=2) (z:=2) rfl (by omega) (by omega)
    have w3:=sub64 (k:=k) (c:=3) (z:=3) rfl (by omega) (by omega)
    have w4:=sub64 (k:=k) (c:=4) (z:=4) rfl (by omega) (by omega)
    have w5:=sub64 (k:=k) (c:=5) (z:=5) rfl (by omega) (by omega)
    have w6:=sub64 (k:=k) (c:=6) (z:=6) rfl (by omega) (by omega)
    have w7:=sub64 (k:=k) (c:=7) (z:=7) rfl (by omega) (by omega)
    have w8:=sub64 (k:=k) (c:=8) (z:=8) rfl (by omega) (by omega)
    simp only[w1,w2,w3,w4,w5,w6,w7,w8,Int.toNat_natCast]
    rw[obind_of (sm_lo (x:=x10 % 100) (by omega)),obind_of (sm_hi (x:=x10 % 100) (by omega))]
    rw[obind_const (at_tk (by omega) (by first | omega | (simp only[List.length_set];omega))),obind_const (gi_tk (by first | omega | (simp only[List.length_set];omega)))]
    rw[obind_const (at_tk (by omega) (by first | omega | (simp only[List.length_set];omega))),obind_const (gi_tk (by first | omega | (simp only[List.length_set];omega)))]
    rw[obind_of (sm_lo (x:=x10 / 100) (by omega)),obind_of (sm_hi (x:=x10 / 100) (by omega))]
    rw[obind_const (at_tk (by omega) (by first | omega | (simp only[List.length_set];omega))),obind_const (gi_tk (by first | omega | (simp only[List.length_set];omega)))]
    rw[obind_const (at_tk (by omega) (by first | omega | (simp only[List.length_set];omega))),obind_const (gi_tk (by first | omega | (simp only[List.length_set];omega)))]
    rw[obind_of (sm_lo (x:=x32 % 100) (by omega)),obind_of (sm_hi (x:=x32 % 100) (by omega))]
    rw[obind_const (at_tk (by omega) (by first | omega | (simp only[List.length_set];omega))),obind_const (gi_tk (by first | omega | (simp only[List.length_set];omega)))]
    rw[obind_const (at_tk (by omega) (by first | omega | (simp only[List.length_set];omega))),obind_const (gi_tk (by first | omega | (simp only[List.length_set];omega)))]
    rw[obind_of (sm_lo (x:=x32 / 100) (by omega)),obind_of (sm_hi (x:=x32 / 100) (by omega))]
    rw[obind_const (at_tk (by omega) (by first | omega | (simp only[List.length_set];omega))),obind_const (gi_tk (by first | omega | (simp only[List.length_set];omega)))]
    rw[obind_const (at_tk (by omega) (by first | omega | (simp only[List.length_set];omega))),obind_const (gi_tk (by first | omega | (simp only[List.length_set];omega)))]
    simp only[Nat.zero_add]
    rw[u8d (d:=x10 % 100 % 10) (by omega),u8d (d:=x10 % 100 / 10) (by omega),u8d (d:=x10 / 100 % 10) (by omega),u8d (d:=x10 / 100 / 10) (by omega),u8d (d:=x32 % 100 % 10) (by omega),u8d (d:=x32 % 100 / 10) (by omega),u8d (d:=x32 / 100 % 10) (by omega),u8d (d:=x32 / 100 / 10) (by omega)]
    obtain ⟨L',h1,h2,h3⟩:=IH ((((((((L.set (k-1) ((48+x10 % 100 % 10:Nat):Int)).set (k-2) ((48+x10 % 100 / 10:Nat):Int)).set (k-3) ((48+x10 / 100 % 10:Nat):Int)).set (k-4) ((48+x10 / 100 / 10:Nat):Int)).set (k-5) ((48+x32 % 100 % 10:Nat):Int)).set (k-6) ((48+x32 % 100 / 10:Nat):Int)).set (k-7) ((48+x32 / 100 % 10:Nat):Int)).set (k-8) ((48+x32 / 100 / 10:Nat):Int)) (by simp only[List.length_set];exact hL) (fun j hj hj2=>by
      by_cases hjk:k≤j
      · repeat rw[List.getElem?_set_ne (by omega)]
        exact hfill j hjk hj2
      · have hc:j=k-1∨j=k-2∨j=k-3∨j=k-4∨j=k-5∨j=k-6∨j=k-7∨j=k-8:=by omega
        rcases hc with hc | hc | hc | hc | hc | hc | hc | hc
        · rw[hc,show U / 10^(len-1-(k-1))=v / 10^0 by have:=hdig 0 (by omega);rwa [show k-1-0=k-1 by omega] at this,List.getElem?_set_ne (by omega),List.getElem?_set_ne (by omega),List.getElem?_set_ne (by omega),List.getElem?_set_ne (by omega),List.getElem?_set_ne (by omega),List.getElem?_set_ne (by omega),List.getElem?_set_ne (by omega),List.getElem?_set_self (by first | omega | (simp only[List.length_set];omega))]
          congr 2;simp only[Nat.reducePow];omega
        · rw[hc,show U / 10^(len-1-(k-2))=v / 10^1 by have:=hdig 1 (by omega);rwa [show k-1-1=k-2 by omega] at this,List.getElem?_set_ne (by omega),List.getElem?_set_ne (by omega),List.getElem?_set_ne (by omega),List.getElem?_set_ne (by omega),List.getElem?_set_ne (by omega),List.getElem?_set_ne (by omega),List.getElem?_set_self (by first | omega | (simp only[List.length_set];omega))]
          congr 2;simp only[Nat.reducePow];omega
        · rw[hc,show U / 10^(len-1-(k-3))=v / 10^2 by have:=hdig 2 (by omega);rwa [show k-1-2=k-3 by omega] at this,List.getElem?_set_ne (by omega),List.getElem?_set_ne (by omega),List.getElem?_set_ne (by omega),List.getElem?_set_ne (by omega),List.getElem?_set_ne (by omega),List.getElem?_set_self (by first | omega | (simp only[List.length_set];omega))]
          congr 2;simp only[Nat.reducePow];omega
        · rw[hc,show U / 10^(len-1-(k-4))=v / 10^3 by have:=hdig 3 (by omega);rwa [show k-1-3=k-4 by omega] at this,List.getElem?_set_ne (by omega),List.getElem?_set_ne (by omega),List.getElem?_set_ne (by omega),List.getElem?_set_ne (by omega),List.getElem?_set_self (by first | omega | (simp only[List.length_set];omega))]
          congr 2;simp only[Nat.reducePow];omega
        · rw[hc,show U / 10^(len-1-(k-5))=v / 10^4 by have:=hdig 4 (by omega);rwa [show k-1-4=k-5 by omega] at this,List.getElem?_set_ne (by omega),List.getElem?_set_ne (by omega),List.getElem?_set_ne (by omega),List.getElem?_set_self (by first | omega | (simp only[List.length_set];omega))]
          congr 2;simp only[Nat.reducePow];omega
        · rw[hc,show U / 10^(len-1-(k-6))=v / 10^5 by have:=hdig 5 (by omega);rwa [show k-1-5=k-6 by omega] at this,List.getElem?_set_ne (by omega),List.getElem?_set_ne (by omega),List.getElem?_set_self (by first | omega | (simp only[List.length_set];omega))]
          congr 2;simp only[Nat.reducePow];omega
        · rw[hc,show U / 10^(len-1-(k-7))=v / 10^6 by have:=hdig 6 (by omega);rwa [show k-1-6=k-7 by omega] at this,List.getElem?_set_ne (by omega),List.getElem?_set_self (by first | omega | (simp only[List.length_set];omega))]
          congr 2;simp only[Nat.reducePow];omega
        · rw[hc,show U / 10^(len-1-(k-8))=v / 10^7 by have:=hdig 7 (by omega);rwa [show k-1-7=k-8 by omega] at this,List.getElem?_set_self (by first | omega | (simp only[List.length_set];omega))]
          congr 2;simp only[Nat.reducePow];omega)
    refine ⟨L',?_,by rw[h2];simp only[List.length_set],?_⟩
    · rw[show k % 8=(k-8) % 8 by omega];exact h1
    · rw[show k % 8=(k-8) % 8 by omega];exact h3
theorem shr64 (v k:Nat) (hk:k≤64):shrI .i64 (v:Int) (k:Int)=((v / 2^k:Nat):Int):=shrN v k hk
theorem pow10_at {t:Nat} (h:t<20):at? ((1:Int)::((10:Int)::((100:Int)::((1000:Int)::((10000:Int)::((100000:Int)::((1000000:Int)::((10000000:Int)::((100000000:Int)::((1000000000:Int)::((10000000000:Int)::((100000000000:Int)::((1000000000000:Int)::((10000000000000:Int)::((100000000000000:Int)::((1000000000000000:Int)::((10000000000000000:Int)::((100000000000000000:Int)::((1000000000000000000:Int)::((10000000000000000000:Int)::[])))))))))))))))))))) (t:Int)=some ((10^t:Nat):Int):=by
  have:=List.all_eq_true.1 (show ((List.range 20).all fun t=>decide (at? ((1:Int)::((10:Int)::((100:Int)::((1000:Int)::((10000:Int)::((100000:Int)::((1000000:Int)::((10000000:Int)::((100000000:Int)::((1000000000:Int)::((10000000000:Int)::((100000000000:Int)::((1000000000000:Int)::((10000000000000:Int)::((100000000000000:Int)::((1000000000000000:Int)::((10000000000000000:Int)::((100000000000000000:Int)::((1000000000000000000:Int)::((10000000000000000000:Int)::[])))))))))))))))))))) (t:Int)=some ((10^t:Nat):Int)))=true by decide +kernel) t (List.mem_range.2 h)
  exact of_decide_eq_true this
theorem numDigits_val (n:Nat) {u:Nat} (h0:0<u) (h:u<18446744073709551616):strconv_numDigits (n+2) (u:Int)=some ((ndg u:Nat):Int):=by
  have hb:=(bl_spec 64 u h).2.2
  have hl:=lgt_lt hb
  rw[strconv_numDigits_eq,len64_val n h,obs,strconv_log10Pow2_eq,obs]
  have e:shrI .i64 (IntKind.wrap .i64 (((bl 64 u:Nat):Int)*(78913:Int))) (18:Int)=((lgt (bl 64 u):Nat):Int):=by
    rw[show ((bl 64 u:Nat):Int)*(78913:Int)=((bl 64 u*78913:Nat):Int) by omega,w64 (by omega) (by omega),show (18:Int)=((18:Nat):Int) from rfl,shr64 _ _ (by omega)]
    rfl
  rw[e,pow10_at hl,obs,strconv_bool2_int_eq,tfd,ndg_bl h0 h]
  by_cases hle:10^lgt (bl 64 u)≤u
  · rw[if_pos (by exact_mod_cast hle),if_pos hle,obs,w64 (by omega) (by omega)];rfl
  · rw[if_neg (fun k=>hle (by exact_mod_cast k)),if_neg hle,obs,w64 (by omega) (by omega)];rfl
theorem small_all (n:Nat):((List.range 100).all fun x=>match strconv_small (n+1) (x:Int) with | some r=>decide (r=toB (decI x)) | none=>false)=true:=by kernel_rfl
theorem small_val (n:Nat) {x:Nat} (h:x<100):strconv_small (n+1) (x:Int)=some (toB (decI x)):=by
  have:=List.all_eq_true.1 (small_all n) x (List.mem_range.2 h)
  cases hs:strconv_small (n+1) (x:Int) with
  | none=>simp only[hs] at this;cases this
  | some r=>simp only[hs,decide_eq_true_eq] at this;rw[this]
theorem at_tk0 {X:List Int} {len:Nat} (h:0<len) (hX:len≤X.length):∃y,at? (List.take len (List.drop 0 X)) (0:Int)=some y:=at_tk (i:=0) h hX
theorem last_dig {v:Nat} (h:v<10):IntKind.wrap .u8 (IntKind.wrap .u32 ((48:Int)+(v:Int)))=((48+v:Nat):Int):=by
  rw[show (48:Int)+(v:Int)=((48+v:Nat):Int) by omega,wu32 (by omega),wu8 (by omega) (by omega)]
theorem fill_take {U len:Nat} {L:List Int} (hL:len≤L.length) (h:∀j,j<len→L[j]? = some ((48+U / 10^(len-1-j) % 10:Nat):Int)):L.take len=dgs U len:=by
  refine dgs_of (by rw[List.length_take];omega) fun j hj => ?_
  rw[List.getElem?_take,if_pos hj];exact h j hj
theorem fb_val (n:Nat) {u len:Nat} (hu:u<18446744073709551616) (hlen:len≤20) (hd:u<10^len) (L0:List Int) (hL0:L0.length=24) :
    ∃L,strconv_formatBase10 (n+1) (L0,(0,len)) (u:Int)=some (L,(0,len))∧L.length=24∧L.take len=dgs u len:=by
  obtain ⟨L,h1,h2,h3⟩:=fb_l1 n (U:=u) (len:=len) (by omega) hu (len / 8) loopFuel len L0 rfl (by unfold loopFuel;omega) (Nat.le_refl _) (by omega) (fun j hj hj2=>by omega)
  rw[Nat.sub_self,Nat.pow_zero,Nat.div_one] at h1
  rw[strconv_formatBase10_eq]
  change ∃L,obind (strconv_formatBase10_l1 n loopFuel ((L0,(0,len)),((u:Int),((len:Int),())))) _=_∧_
  rw[h1,obs,selim_inl]
  have hv:u / 10^(len-len % 8)<10^(len % 8):=by
    rw[Nat.div_lt_iff_lt_mul (Nat.pow_pos (by omega)),←Nat.pow_add,show len % 8+(len-len % 8)=len by omega];exact hd
  have hk8:len % 8<8:=Nat.mod_lt _ (by omega)
  have hkl:len % 8≤len:=Nat.mod_le _ _
  have hdig:∀i,i<len % 8→u / 10^(len-1-(len % 8-1-i))=u / 10^(len-len % 8) / 10^i:=fun i hi=>dig_at u hkl hi
  rw[hL0] at h2
  generalize len % 8=k at *
  generalize u / 10^(len-k)=v at *
  have hv7:v<10000000:=Nat.lt_of_lt_of_le hv (Nat.le_trans (Nat.pow_le_pow_right (by omega) (show k≤7 by omega)) (by decide))
  have e1:IntKind.wrap .u32 (v:Int)=(v:Int):=wu32 (by omega)
  have leaf:∀L':List Int,L'.length=24→(∀j,j<len→L'[j]? = some ((48+u / 10^(len-1-j) % 10:Nat):Int))→∃L,some (L',((0:Nat),len))=some (L,(0,len))∧L.length=24∧L.take len=dgs u len :=
    fun L' a b=>⟨L',rfl,a,fill_take (by omega) b⟩
  simp only[tfd,e1]
  by_cases h4:4≤k
  · rw[if_pos (by omega)]
    have e2:IntKind.wrap .u32 (Int.tdiv (v:Int) (10000:Int))=((v / 10000:Nat):Int):=by rw[td10000,wu32 (by omega)]
    rw[tm10000,e2]
    generalize hx10:v % 10000=x10
    generalize hx:v / 10000=x
    have e3:IntKind.wrap .u32 (Int.tdiv (x10:Int) (100:Int))=((x10 / 100:Nat):Int):=by rw[td100,wu32 (by omega)]
    have e4:IntKind.wrap .u32 (Int.tdiv (x:Int) (100:Int))=((x / 100:Nat):Int):=by rw[td100,wu32 (by omega)]
    have w1:=sub64 (k:=k) (c:=1) (z:=1) rfl (by omega) (by omega)
    have w2:=sub64 (k:=k) (c:=2) (z:=2) rfl (by omega) (by omega)
    have w3:=sub64 (k:=k) (c:=3) (z:=3) rfl (by omega) (by omega)
    have w4:=sub64 (k:=k) (c:=4) (z:=4) rfl (by omega) (by omega)
    simp only[e3,e4,tm100,w1,w2,w3,w4,Int.toNat_natCast]
    rw[obind_of (sm_lo (x:=x10 % 100) (by omega)),obind_of (sm_hi (x:=x10 % 100) (by omega))]
    rw[obind_const (at_tk (by omega) (by first | omega | (simp only[List.length_set];omega))),obind_const (gi_tk (by first | omega | (simp only[List.length_set];omega)))]
    rw[obind_const (at_tk (by omega) (by first | omega | (simp only[List.length_set];omega))),obind_const (gi_tk (by first | omega | (simp only[List.length_set];omega)))]
    rw[obind_of (sm_lo (x:=x10 / 100) (by omega)),obind_of (sm_hi (x:=x10 / 100) (by omega))]
    rw[obind_const (at_tk (by omega) (by first | omega | (simp only[List.length_set];omega))),obind_const (gi_tk (by first | omega | (simp only[List.length_set];omega)))]
    rw[obind_const (at_tk (by omega) (by first | omega | (simp only[List.length_set];omega))),obind_const (gi_tk (by first | omega | (simp only[List.length_set];omega)))]
    by_cases h6:6≤k
    · rw[if_pos (by omega)]
      have v1:=sub64 (k:=k-4) (c:=1) (z:=1) rfl (by omega) (by omega)
      have v2:=sub64 (k:=k-4) (c:=2) (z:=2) rfl (by omega) (by omega)
      simp only[v1,v2,Int.toNat_natCast]
      rw[obind_of (sm_lo (x:=x % 100) (by omega)),obind_of (sm_hi (x:=x % 100) (by omega))]
      rw[obind_const (at_tk (by omega) (by first | omega | (simp only[List.length_set];omega))),obind_const (gi_tk (by first | omega | (simp only[List.length_set];omega)))]
      rw[obind_const (at_tk (by omega) (by first | omega | (simp only[List.length_set];omega))),obind_const (gi_tk (by first | omega | (simp only[List.length_set];omega)))]
      by_cases h7:k=7
      · subst h7
        rw[if_pos (by omega)]
        rw[obind_const (at_tk0 (by omega) (by first | omega | (simp only[List.length_set];omega))),obind_const (gi_tk (by first | omega | (simp only[List.length_set];omega)))]
        rw[last_dig (by omega)]
        simp only[Nat.zero_add]
        rw[u8d (d:=x10 % 100 % 10) (by omega),u8d (d:=x10 % 100 / 10) (by omega),u8d (d:=x10 / 100 % 10) (by omega),u8d (d:=x10 / 100 / 10) (by omega),u8d (d:=x % 100 % 10) (by omega),u8d (d:=x % 100 / 10) (by omega)]
        refine leaf _ (by simp only[List.length_set];exact h2) fun j hj => ?_
        by_cases hjk:7≤j
        · repeat rw[List.getElem?_set_ne (by omega)]
          exact h3 j hjk hj
        · have hc:j=6∨j=5∨j=4∨j=3∨j=2∨j=1∨j=0:=by omega
          rcases hc with hc | hc | hc | hc | hc | hc | hc
          · rw[hc,show u / 10^(len-1-(6))=v / 10^0 by have:=hdig 0 (by omega);rwa [show 7-1-0=6 by omega] at this,List.getElem?_set_ne (by omega),List.getElem?_set_ne (by omega),List.getElem?_set_ne (by omega),List.getElem?_set_ne (by omega),List.getElem?_set_ne (by omega),List.getElem?_set_ne (by omega),List.getElem?_set_self (by first | omega | (simp only[List.length_set];omega))]
            exact dig_eq (by simp only[Nat.reducePow];simp only[Nat.reducePow] at hv;omega)
          · rw[hc,show u / 10^(len-1-(5))=v / 10^1 by have:=hdig 1 (by omega);rwa [show 7-1-1=5 by omega] at this,List.getElem?_set_ne (by omega),List.getElem?_set_ne (by omega),List.getElem?_set_ne (by omega),List.getElem?_set_ne (by omega),List.getElem?_set_ne (by omega),List.getElem?_set_self (by first | omega | (simp only[List.length_set];omega))]
            exact dig_eq (by simp only[Nat.reducePow];simp only[Nat.reducePow] at hv;omega)
          · rw[hc,show u / 10^(len-1-(4))=v / 10^2 by have:=hdig 2 (by omega);rwa [show 7-1-2=4 by omega] at this,List.getElem?_set_ne (by omega),List.getElem?_set_ne (by omega),List.getElem?_set_ne (by omega),List.getElem?_set_ne (by omega),List.getElem?_set_self (by first | omega | (simp only[List.length_set];omega))]
            exact dig_eq (by simp only[Nat.reducePow];simp only[Nat.reducePow] at hv;omega)
          · rw[hc,show u / 10^(len-1-(3))=v / 10^3 by have:=hdig 3 (by omega);rwa [show 7-1-3=3 by omega] at this,List.getElem?_set_ne (by omega),List.getElem?_set_ne (by omega),List.getElem?_set_ne (by omega),List.getElem?_set_self (by first | omega | (simp only[List.length_set];omega))]
            exact dig_eq (by simp only[Nat.reducePow];simp only[Nat.reducePow] at hv;omega)
          · rw[hc,show u / 10^(len-1-(2))=v / 10^4 by have:=hdig 4 (by omega);rwa [show 7-1-4=2 by omega] at this,List.getElem?_set_ne (by omega),List.getElem?_set_ne (by omega),List.getElem?_set_self (by first | omega | (simp only[List.length_set];omega))]
            exact dig_eq (by simp only[Nat.reducePow];simp only[Nat.reducePow] at hv;omega)
          · rw[hc,show u / 10^(len-1-(1))=v / 10^5 by have:=hdig 5 (by omega);rwa [show 7-1-5=1 by omega] at this,List.getElem?_set_ne (by omega),List.getElem?_set_self (by first | omega | (simp only[List.length_set];omega))]
            exact dig_eq (by simp only[Nat.reducePow];simp only[Nat.reducePow] at hv;omega)
          · rw[hc,show u / 10^(len-1-(0))=v / 10^6 by have:=hdig 6 (by omega);rwa [show 7-1-6=0 by omega] at this,List.getElem?_set_self (by first | omega | (simp only[List.length_set];omega))]
            exact dig_eq (by simp only[Nat.reducePow];simp only[Nat.reducePow] at hv;omega)
      · have h6':k=6:=by omega
        subst h6'
        rw[if_neg (by omega)]
        simp only[Nat.zero_add]
        rw[u8d (d:=x10 % 100 % 10) (by omega),u8d (d:=x10 % 100 / 10) (by omega),u8d (d:=x10 / 100 % 10) (by omega),u8d (d:=x10 / 100 / 10) (by omega),u8d (d:=x % 100 % 10) (by omega),u8d (d:=x % 100 / 10) (by omega)]
        refine leaf _ (by simp only[List.length_set];exact h2) fun j hj => ?_
        by_cases hjk:6≤j
        · repeat rw[List.getElem?_set_ne (by omega)]
          exact h3 j hjk hj
        · have hc:j=5∨j=4∨j=3∨j=2∨j=1∨j=0:=by omega
          rcases hc with hc | hc | hc | hc | hc | hc
          · rw[hc,show u / 10^(len-1-(5))=v / 10^0 by have:=hdig 0 (by omega);rwa [show 6-1-0=5 by omega] at this,List.getElem?_set_ne (by omega),List.getElem?_set_ne (by omega),List.getElem?_set_ne (by omega),List.getElem?_set_ne (by omega),List.getElem?_set_ne (by omega),List.getElem?_set_self (by first | omega | (simp only[List.length_set];omega))]
            exact dig_eq (by simp only[Nat.reducePow];simp only[Nat.reducePow] at hv;omega)
          · rw[hc,show u / 10^(len-1-(4))=v / 10^1 by have:=hdig 1 (by omega);rwa [show 6-1-1=4 by omega] at this,List.getElem?_set_ne (by omega),List.getElem?_set_ne (by omega),List.getElem?_set_ne (by omega),List.getElem?_set_ne (by omega),List.getElem?_set_self (by first | omega | (simp only[List.length_set];omega))]
            exact dig_eq (by simp only[Nat.reducePow];simp only[Nat.reducePow] at hv;omega)
          · rw[hc,show u / 10^(len-1-(3))=v / 10^2 by have:=hdig 2 (by omega);rwa [show 6-1-2=3 by omega] at this,List.getElem?_set_ne (by omega),List.getElem?_set_ne (by omega),List.getElem?_set_ne (by omega),List.getElem?_set_self (by first | omega | (simp only[List.length_set];omega))]
            exact dig_eq (by simp only[Nat.reducePow];simp only[Nat.reducePow] at hv;omega)
          · rw[hc,show u / 10^(len-1-(2))=v / 10^3 by have:=hdig 3 (by omega);rwa [show 6-1-3=2 by omega] at this,List.getElem?_set_ne (by omega),List.getElem?_set_ne (by omega),List.getElem?_set_self (by first | omega | (simp only[List.length_set];omega))]
            exact dig_eq (by simp only[Nat.reducePow];simp only[Nat.reducePow] at hv;omega)
          · rw[hc,show u / 10^(len-1-(1))=v / 10^4 by have:=hdig 4 (by omega);rwa [show 6-1-4=1 by omega] at this,List.getElem?_set_ne (by omega),List.getElem?_set_self (by first | omega | (simp only[List.length_set];omega))]
            exact dig_eq (by simp only[Nat.reducePow];simp only[Nat.reducePow] at hv;omega)
          · rw[hc,show u / 10^(len-1-(0))=v / 10^5 by have:=hdig 5 (by omega);rwa [show 6-1-5=0 by omega] at this,List.getElem?_set_self (by first | omega | (simp only[List.length_set];omega))]
            exact dig_eq (by simp only[Nat.reducePow];simp only[Nat.reducePow] at hv;omega)
    · rw[if_neg (by omega)]
      by_cases h5:k=5
      · subst h5
        rw[if_pos (by omega)]
        rw[obind_const (at_tk0 (by omega) (by first | omega | (simp only[List.length_set];omega))),obind_const (gi_tk (by first | omega | (simp only[List.length_set];omega)))]
        have hx9:x<10:=by simp only[Nat.reducePow] at hv;omega
        rw[last_dig hx9]
        simp only[Nat.zero_add]
        rw[u8d (d:=x10 % 100 % 10) (by omega),u8d (d:=x10 % 100 / 10) (by omega),u8d (d:=x10 / 100 % 10) (by omega),u8d (d:=x10 / 100 / 10) (by omega)]
        refine leaf _ (by simp only[List.length_set];exact h2) fun j hj => ?_
        by_cases hjk:5≤j
        · repeat rw[List.getElem?_set_ne (by omega)]
          exact h3 j hjk hj
        · have hc:j=4∨j=3∨j=2∨j=1∨j=0:=by omega
          rcases hc with hc | hc | hc | hc | hc
          · rw[hc,show u / 10^(len-1-(4))=v / 10^0 by have:=hdig 0 (by omega);rwa [show 5-1-0=4 by omega] at this,List.getElem?_set_ne (by omega),List.getElem?_set_ne (by omega),List.getElem?_set_ne (by omega),List.getElem?_set_ne (by omega),List.getElem?_set_self (by first | omega | (simp only[List.length_set];omega))]
            exact dig_eq (by simp only[Nat.reducePow];simp only[Nat.reducePow] at hv;omega)
          · rw[hc,show u / 10^(len-1-(3))=v / 10^1 by have:=hdig 1 (by omega);rwa [show 5-1-1=3 by omega] at this,List.getElem?_set_ne (by omega),List.getElem?_set_ne (by omega),List.getElem?_set_ne (by omega),List.getElem?_set_self (by first | omega | (simp only[List.length_set];omega))]
            exact dig_eq (by simp only[Nat.reducePow];simp only[Nat.reducePow] at hv;omega)
          · rw[hc,show u / 10^(len-1-(2))=v / 10^2 by have:=hdig 2 (by omega);rwa [show 5-1-2=2 by omega] at this,List.getElem?_set_ne (by omega),List.getElem?_set_ne (by omega),List.getElem?_set_self (by first | omega | (simp only[List.length_set];omega))]
            exact dig_eq (by simp only[Nat.reducePow];simp only[Nat.reducePow] at hv;omega)
          · rw[hc,show u / 10^(len-1-(1))=v / 10^3 by have:=hdig 3 (by omega);rwa [show 5-1-3=1 by omega] at this,List.getElem?_set_ne (by omega),List.getElem?_set_self (by first | omega | (simp only[List.length_set];omega))]
            exact dig_eq (by simp only[Nat.reducePow];simp only[Nat.reducePow] at hv;omega)
          · rw[hc,show u / 10^(len-1-(0))=v / 10^4 by have:=hdig 4 (by omega);rwa [show 5-1-4=0 by omega] at this,List.getElem?_set_self (by first | omega | (simp only[List.length_set];omega))]
            exact dig_eq (by simp only[Nat.reducePow];simp only[Nat.reducePow] at hv;omega)
      · have h4':k=4:=by omega
        subst h4'
        rw[if_neg (by omega)]
        simp only[Nat.zero_add]
        rw[u8d (d:=x10 % 100 % 10) (by omega),u8d (d:=x10 % 100 / 10) (by omega),u8d (d:=x10 / 100 % 10) (by omega),u8d (d:=x10 / 100 / 10) (by omega)]
        refine leaf _ (by simp only[List.length_set];exact h2) fun j hj => ?_
        by_cases hjk:4≤j
        · repeat rw[List.getElem?_set_ne (by omega)]
          exact h3 j hjk hj
        · have hc:j=3∨j=2∨j=1∨j=0:=by omega
          rcases hc with hc | hc | hc | hc
          · rw[hc,show u / 10^(len-1-(3))=v / 10^0 by have:=hdig 0 (by omega);rwa [show 4-1-0=3 by omega] at this,List.getElem?_set_ne (by omega),List.getElem?_set_ne (by omega),List.getElem?_set_ne (by omega),List.getElem?_set_self (by first | omega | (simp only[List.length_set];omega))]
            exact dig_eq (by simp only[Nat.reducePow];simp only[Nat.reducePow] at hv;omega)
          · rw[hc,show u / 10^(len-1-(2))=v / 10^1 by have:=hdig 1 (by omega);rwa [show 4-1-1=2 by omega] at this,List.getElem?_set_ne (by omega),List.getElem?_set_ne (by omega),List.getElem?_set_self (by first | omega | (simp only[List.length_set];omega))]
            exact dig_eq (by simp only[Nat.reducePow];simp only[Nat.reducePow] at hv;omega)
          · rw[hc,show u / 10^(len-1-(1))=v / 10^2 by have:=hdig 2 (by omega);rwa [show 4-1-2=1 by omega] at this,List.getElem?_set_ne (by omega),List.getElem?_set_self (by first | omega | (simp only[List.length_set];omega))]
            exact dig_eq (by simp only[Nat.reducePow];simp only[Nat.reducePow] at hv;omega)
          · rw[hc,show u / 10^(len-1-(0))=v / 10^3 by have:=hdig 3 (by omega);rwa [show 4-1-3=0 by omega] at this,List.getElem?_set_self (by first | omega | (simp only[List.length_set];omega))]
            exact dig_eq (by simp only[Nat.reducePow];simp only[Nat.reducePow] at hv;omega)
  · rw[if_neg (by omega)]
    have e4:IntKind.wrap .u32 (Int.tdiv (v:Int) (100:Int))=((v / 100:Nat):Int):=by rw[td100,wu32 (by omega)]
    by_cases h2':2≤k
    · rw[if_pos (by omega)]
      have w1:=sub64 (k:=k) (c:=1) (z:=1) rfl (by omega) (by omega)
      have w2:=sub64 (k:=k) (c:=2) (z:=2) rfl (by omega) (by omega)
      simp only[e4,tm100,w1,w2,Int.toNat_natCast]
      rw[obind_of (sm_lo (x:=v % 100) (by omega)),obind_of (sm_hi (x:=v % 100) (by omega))]
      rw[obind_const (at_tk (by omega) (by first | omega | (simp only[List.length_set];omega))),obind_const (gi_tk (by first | omega | (simp only[List.length_set];omega)))]
      rw[obind_const (at_tk (by omega) (by first | omega | (simp only[List.length_set];omega))),obind_const (gi_tk (by first | omega | (simp only[List.length_set];omega)))]
      by_cases h3':k=3
      · subst h3'
        rw[if_pos (by omega)]
        rw[obind_const (at_tk0 (by omega) (by first | omega | (simp only[List.length_set];omega))),obind_const (gi_tk (by first | omega | (simp only[List.length_set];omega)))]
        have hx9:v / 100<10:=by simp only[Nat.reducePow] at hv;omega
        rw[last_dig hx9]
        simp only[Nat.zero_add]
        rw[u8d (d:=v % 100 % 10) (by omega),u8d (d:=v % 100 / 10) (by omega)]
        refine leaf _ (by simp only[List.length_set];exact h2) fun j hj => ?_
        by_cases hjk:3≤j
        · repeat rw[List.getElem?_set_ne (by omega)]
          exact h3 j hjk hj
        · have hc:j=2∨j=1∨j=0:=by omega
          rcases hc with hc | hc | hc
          · rw[hc,show u / 10^(len-1-(2))=v / 10^0 by have:=hdig 0 (by omega);rwa [show 3-1-0=2 by omega] at this,List.getElem?_set_ne (by omega),List.getElem?_set_ne (by omega),List.getElem?_set_self (by first | omega | (simp only[List.length_set];omega))]
            exact dig_eq (by simp only[Nat.reducePow];simp only[Nat.reducePow] at hv;omega)
          · rw[hc,show u / 10^(len-1-(1))=v / 10^1 by have:=hdig 1 (by omega);rwa [show 3-1-1=1 by omega] at this,List.getElem?_set_ne (by omega),List.getElem?_set_self (by first | omega | (simp only[List.length_set];omega))]
            exact dig_eq (by simp only[Nat.reducePow];simp only[Nat.reducePow] at hv;omega)
          · rw[hc,show u / 10^(len-1-(0))=v / 10^2 by have:=hdig 2 (by omega);rwa [show 3-1-2=0 by omega] at this,List.getElem?_set_self (by first | omega | (simp only[List.length_set];omega))]
            exact dig_eq (by simp only[Nat.reducePow];simp only[Nat.reducePow] at hv;omega)
      · have h2'':k=2:=by omega
        subst h2''
        rw[if_neg (by omega)]
        simp only[Nat.zero_add]
        rw[u8d (d:=v % 100 % 10) (by omega),u8d (d:=v % 100 / 10) (by omega)]
        refine leaf _ (by simp only[List.length_set];exact h2) fun j hj => ?_
        by_cases hjk:2≤j
        · repeat rw[List.getElem?_set_ne (by omega)]
          exact h3 j hjk hj
        · have hc:j=1∨j=0:=by omega
          rcases hc with hc | hc
          · rw[hc,show u / 10^(len-1-(1))=v / 10^0 by have:=hdig 0 (by omega);rwa [show 2-1-0=1 by omega] at this,List.getElem?_set_ne (by omega),List.getElem?_set_self (by first | omega | (simp only[List.length_set];omega))]
            exact dig_eq (by simp only[Nat.reducePow];simp only[Nat.reducePow] at hv;omega)
          · rw[hc,show u / 10^(len-1-(0))=v / 10^1 by have:=hdig 1 (by omega);rwa [show 2-1-1=0 by omega] at this,List.getElem?_set_self (by first | omega | (simp only[List.length_set];omega))]
            exact dig_eq (by simp only[Nat.reducePow];simp only[Nat.reducePow] at hv;omega)
    · rw[if_neg (by omega)]
      by_cases h1':k=1
      · subst h1'
        rw[if_pos (by omega)]
        rw[obind_const (at_tk0 (by omega) (by omega)),obind_const (gi_tk (by omega))]
        have hx9:v<10:=by simpa using hv
        rw[last_dig hx9]
        simp only[Nat.zero_add]
        refine leaf _ (by simp only[List.length_set];exact h2) fun j hj => ?_
        by_cases hjk:1≤j
        · rw[List.getElem?_set_ne (by omega)]
          exact h3 j hjk hj
        · have hc:j=0:=by omega
          rcases hc with hc
          · rw[hc,show u / 10^(len-1-(0))=v / 10^0 by have:=hdig 0 (by omega);rwa [show 1-1-0=0 by omega] at this,List.getElem?_set_self (by first | omega | (simp only[List.length_set];omega))]
            exact dig_eq (by simp only[Nat.reducePow];simp only[Nat.reducePow] at hv;omega)
      · rw[if_neg (by omega)]
        exact leaf _ h2 fun j hj=>h3 j (by omega) hj
theorem appendUint_val (n:Nat) {u:Nat} (h:u<18446744073709551616) (dst:List Int) (hd:dst.length≤1000000):strconv_AppendUint_ (n+3) dst (u:Int) (10:Int)=some (dst++decI u):=by
  have hlen:(decI u).length≤20:=by unfold decI;rw[dgs_len];exact ndg_le h
  rw[strconv_AppendUint__eq]
  simp only[tfd]
  rw[if_pos trivial]
  by_cases hs:u<100
  · have e:(List.map (fun y=>((UInt8.toNat y:Nat):Int)) (toB (decI u)))=decI u:=bytesI_toB fun x hx=>by have:=decI_range u x hx;omega
    rw[if_pos (by omega),w64 (by omega) (by omega),small_val (n+1) hs,obs,e,if_pos (by omega)]
  · have hnd:=ndg_le h
    rw[if_neg (by omega),numDigits_val n (by omega) h,obs,tif_ite,if_pos (by simp only[Bool.and_eq_true,decide_eq_true_eq];omega),Int.toNat_natCast,Nat.sub_zero]
    obtain ⟨L,h1,h2,h3⟩:=fb_val (n+1) h hnd (ndg_hi h) (List.replicate 24 (0:Int)) List.length_replicate
    rw[h1,obs,tif_ite,if_pos (by simp[h2]),if_pos h2,tif_ite,if_pos (by simp only[Bool.and_eq_true,decide_eq_true_eq];omega),List.drop_zero,h3,if_pos (by rw[dgs_len];omega)]
    rfl
theorem appendInt_val (n:Nat) {i:Int} (h0 : -9223372036854775808≤i) (h1:i≤9223372036854775807) (dst:List Int) (hd:dst.length≤900000):strconv_AppendInt (n+5) dst i (10:Int)=some (dst++itoI i):=by
  rw[strconv_AppendInt_eq,strconv_AppendInt__eq]
  simp only[tfd]
  unfold itoI
  by_cases hn:i<0
  · rw[if_pos hn,if_pos hn,if_pos (by omega)]
    have e:IntKind.wrap .u64 ((0:Int)-(IntKind.wrap .u64 i))=((i.natAbs:Nat):Int):=by rw[IntKind.wrap_u64,IntKind.wrap_u64];omega
    rw[e,appendUint_val n (by omega) _ (by simp only[List.length_append,List.length_cons,List.length_nil];omega),obs,obs,List.append_assoc];rfl
  · rw[if_neg hn,if_neg hn,wu64 (by omega) (by omega)]
    have e:i=((i.toNat:Nat):Int):=by omega
    rw[show strconv_AppendUint_ (n+3) dst i 10=strconv_AppendUint_ (n+3) dst ((i.toNat:Nat):Int) 10 by rw[←e],appendUint_val n (by omega) _ (by omega),obs,obs]
theorem itoI_len {i:Int} (h0 : -9223372036854775808≤i) (h1:i≤9223372036854775807):(itoI i).length≤21:=by
  unfold itoI decI
  split
  · rw[List.length_cons,dgs_len];have:=ndg_le (u:=i.natAbs) (by omega);omega
  · rw[dgs_len];have:=ndg_le (u:=i.toNat) (by omega);omega
theorem same5_l (n:Nat) (a b:List Lab) (hL:a.length≤9223372036854775807):∀(ra rb pa pb:List Lab) (f:Nat) (ix len:Int),a=pa++ra→b=pb++rb→pa.length=pb.length→ra.length=rb.length→ix=pa.length→len=a.length→ra.length<f →
    r05_Same_l4 n f (a,b,len,ix,())=some (if ra=rb then .inl () else .inr false):=by
  intro ra
  induction ra with
  | nil =>
    intro rb pa pb f ix len ha hb hp hr hi hn hf
    obtain ⟨f,rfl⟩:∃g,f=g+1:=⟨f-1,by simp at hf;omega⟩
    have e:rb=[]:=List.length_eq_zero_iff.1 (by simpa using hr.symm)
    subst e
    rw[r05_Same_l4_eq,decide_eq_false (idxe ha hi hn),tff,if_pos rfl]
  | cons x ra ih =>
    intro rb pa pb f ix len ha hb hp hr hi hn hf
    obtain ⟨f,rfl⟩:∃g,f=g+1:=⟨f-1,by simp at hf;omega⟩
    cases rb with
    | nil=>simp at hr
    | cons y rb =>
      have hlen:=congrArg List.length ha
      simp at hlen
      rw[r05_Same_l4_eq,decide_eq_true (idx ha hi hn),tft,at_mid ha hi,at_mid hb (by omega)]
      simp only[obs,labEq]
      rw[w64 (x:=ix+1) (by omega) (by omega)]
      by_cases h:x=y
      · subst h
        simp only[decide_true,Bool.not_true,tff]
        rw[ih rb (pa++[x]) (pb++[x]) f (ix+1) len (idxl ha) (idxl hb) (by simp;omega) (by simpa using hr) (idxs hi) hn (by simp at hf;omega)]
        simp
      · rw[if_neg (by simp[h])]
        simp only[decide_eq_false h,Bool.not_false,tft]
theorem same5 (n:Nat) (a b:List Lab) (hL:a.length≤9223372036854775807):r05_Same (n+1) a b=some (decide (a=b)):=by
  rw[r05_Same_eq]
  by_cases h:a.length=b.length
  · rw[decide_eq_true (show ((a.length:Nat):Int)=(b.length:Nat) by omega)]
    simp only[Bool.not_true,tff]
    rw[same5_l n a b hL a b [] [] loopFuel 0 _ rfl rfl rfl h rfl rfl (by unfold loopFuel;omega)]
    by_cases h':a=b
    · rw[if_pos h',decide_eq_true h'];rfl
    · rw[if_neg h',decide_eq_false h'];rfl
  · rw[decide_eq_false (show ¬((a.length:Nat):Int)=(b.length:Nat) by omega),decide_eq_false (fun k:a=b=>h (by rw[k]))]
    rfl
abbrev ActT:=Int×(List Lab×(Ev×(Int×(Int×(Int×Int)))))
def nt (i:Int):List UInt8:=toB (itoI i)
theorem nt_len {i:Int} (h:I64 i):(nt i).length≤21:=by
  have:=itoI_len h.1 h.2
  unfold nt
  rw[toB_length];exact this
structure ActW (a:ActT):Prop where
  l:a.2.1.length≤1000000
  e:EvW a.2.2.1
  t:I64 a.2.2.2.1
  fa:I64 a.2.2.2.2.1
  fb:I64 a.2.2.2.2.2.1
  fn:I64 a.2.2.2.2.2.2
def wStale:List UInt8:=[115,116,97,108,101]
theorem dec_len {v:Int} (h0:0≤v) (h1:v≤18446744073709551615):(toB (decI v.toNat)).length≤20:=by
  unfold decI
  rw[toB_length,dgs_len]
  exact ndg_le (by omega)
theorem nt_nn {x:Int} (h:0≤x):nt x=toB (decI x.toNat):=by
  unfold nt itoI
  rw[if_neg (by omega)]
theorem parseM_app (M:Nat) (r:List UInt8):∀(l:List UInt8) (acc:Nat),Lib.parseUintM M acc (l++r)=match Lib.parseUintM M acc l with | .ok a=>Lib.parseUintM M a r | Lib.NumEnd.syntax=>Lib.NumEnd.syntax | .range => .range
  | [],acc=>rfl
  | c::l,acc=>by
    simp only[List.cons_append,Lib.parseUintM]
    split
    · split
      · rfl
      split
      · rfl
      · exact parseM_app M r l _
    · rfl
theorem parseM_le (M:Nat):∀(l:List UInt8) (acc u:Nat),acc≤M→Lib.parseUintM M acc l = .ok u→u≤M
  | [],acc,u,h,e=>by
    unfold Lib.parseUintM at e
    injection e with e;omega
  | c::l,acc,u,h,e=>by
    unfold Lib.parseUintM at e
    split at e
    · split at e
      · cases e
      split at e
      · cases e
      · exact parseM_le M l _ u (by omega) e
    · cases e
theorem parseM_dec (M:Nat) (hM:M≤18446744073709551615):∀(k u:Nat),u≤k→u≤M→Lib.parseUintM M 0 (toB (decI u)) = .ok u:=by
  intro k
  induction k with
  | zero =>
    intro u hk hu
    have:u=0:=by omega
    subst this
    rw[decI_small (by omega)]
    show Lib.parseUintM M 0 [48]=_
    unfold Lib.parseUintM
    rw[if_pos (by decide),if_neg (by omega),if_neg (by simp)]
    rfl
  | succ k ih =>
    intro u hk hu
    have dig:∀d:Nat,d<10→(UInt8.ofNat (48+d)).toNat=48+d:=fun d hd=>by rw[UInt8.toNat_ofNat'];omega
    by_cases h:u<10
    · rw[decI_small h]
      show Lib.parseUintM M 0 [UInt8.ofNat (Int.toNat ((48+u:Nat):Int))]=_
      rw[Int.toNat_natCast]
      unfold Lib.parseUintM
      rw[dig u h,if_pos (by omega),if_neg (by omega),if_neg (by omega)]
      unfold Lib.parseUintM
      congr 1
      omega
    · rw[decI_step (by omega) (by omega),toB_append,parseM_app,ih (u / 10) (by omega) (by omega)]
      show Lib.parseUintM M (u / 10) [UInt8.ofNat (Int.toNat ((48+u % 10:Nat):Int))]=_
      rw[Int.toNat_natCast]
      unfold Lib.parseUintM
      rw[dig (u % 10) (by omega),if_pos (by omega),if_neg (by omega),if_neg (by omega)]
      unfold Lib.parseUintM
      congr 1
      omega
theorem decI_ne (u:Nat):toB (decI u)≠[]:=by
  intro h
  have:=congrArg List.length h
  unfold decI at this
  rw[toB_length,dgs_len] at this
  have:=ndg_pos u
  simp at *;omega
theorem puV_dec (B:Nat) (hB:2^B-1≤18446744073709551615) {u:Nat} (hu:u≤2^B-1):puV B (toB (decI u))=((u:Int),false):=by
  unfold puV Lib.parseUintB
  rw[if_neg (decI_ne u),parseM_dec (2^B-1) hB u u (Nat.le_refl _) hu]
theorem puV_range (B:Nat) (l:List UInt8):0≤(puV B l).1∧(puV B l).1≤((2^B-1:Nat):Int):=by
  unfold puV Lib.parseUintB
  split
  · rename_i u h
    split at h
    · cases h
    · have:=parseM_le (2^B-1) l 0 u (by omega) h
      exact ⟨by simp,by show (u:Int)≤_;omega⟩
  · exact ⟨by simp,by simp⟩
  · exact ⟨by simp,by simp⟩
def rs (s:List UInt8):List UInt8:=(cutV s [32]).2.1
theorem dec_no (u:Nat) {c:UInt8} (hc:c.toNat<48):c ∉ toB (decI u):=by
  intro h
  simp only[toB,List.mem_map] at h
  obtain ⟨x,hx,he⟩:=h
  have hr:=decI_range u x hx
  have:=congrArg UInt8.toNat he
  rw[UInt8.toNat_ofNat'] at this
  omega
theorem labs_small_l (n:Nat) (l:List Lab) (hl:l.length≤9223372036854775807):∀(k f i:Nat),40-i=k→i≤40→i≤l.length →
    ∃z:Unit ⊕ Int,l05_Small_l2 n (f+k+1) (l,(l.length:Int),(i:Int),())=some z∧((z = .inl ()∧l.length≤40)∨z = .inr 0):=by
  intro k
  induction k with
  | zero =>
    intro f i h hi hil
    rw[l05_Small_l2_eq]
    simp only[tif_ite,decide_eq_true_eq]
    by_cases h1:(i:Int)<(l.length:Int)
    · have hx:at? l (i:Int)=some l[i]:=by simp[at?]
      rw[if_pos h1,hx,obs,if_pos (by omega)]
      exact ⟨_,rfl,.inr rfl⟩
    · rw[if_neg h1]
      exact ⟨_,rfl,.inl ⟨rfl,by omega⟩⟩
  | succ k ih =>
    intro f i h hi hil
    rw[show f+(k+1)+1=(f+k+1)+1 by omega,l05_Small_l2_eq]
    simp only[tif_ite,decide_eq_true_eq]
    by_cases h1:(i:Int)<(l.length:Int)
    · have hx:at? l (i:Int)=some l[i]:=by simp[at?]
      rw[if_pos h1,hx,obs,if_neg (by omega)]
      by_cases h2:(1000:Int)<((l[i].1.length:Nat):Int)
      · rw[if_pos h2];exact ⟨_,rfl,.inr rfl⟩
      rw[if_neg h2]
      by_cases h3:(1000:Int)<((l[i].2.length:Nat):Int)
      · rw[if_pos h3];exact ⟨_,rfl,.inr rfl⟩
      rw[if_neg h3,w64 (by omega) (by omega),show (i:Int)+1=((i+1:Nat):Int) by omega]
      exact ih f (i+1) (by omega) (by omega) (by omega)
    · rw[if_neg h1]
      exact ⟨_,rfl,.inl ⟨rfl,by omega⟩⟩
theorem labs_small (n:Nat) (l:List Lab) (hl:l.length≤9223372036854775807):l05_Small (n+1) l=some 0∨(l05_Small (n+1) l=some 1∧l.length≤40):=by
  rw[l05_Small_eq]
  obtain ⟨z,h1,h2⟩:=labs_small_l n l hl 40 (loopFuel-41) 0 rfl (by omega) (by omega)
  rw[show loopFuel-41+40+1=loopFuel by unfold loopFuel;omega] at h1
  have h1':l05_Small_l2 n loopFuel (l,(l.length:Int),0,())=some z:=h1
  rw[h1',obs]
  rcases h2 with ⟨rfl,h⟩ | rfl
  · exact .inr ⟨rfl,h⟩
  · exact .inl rfl
theorem event_check (n:Nat) {e:Ev} (h:EvW e):event_Check (n+1) e=some (if EvOk e then 0 else 2):=by
  obtain ⟨_,hv,_⟩:=h
  rw[event_Check_eq]
  simp only[tfd]
  by_cases h1:e.1<0
  · rw[if_pos h1,if_neg (fun k=>by have:=k.t0;omega)]
  by_cases h2:(35184372088832:Int)≤e.1
  · rw[if_neg h1,if_pos h2,if_neg (fun k=>by have:=k.t1;omega)]
  by_cases h3:e.2.2.1<0
  · rw[if_neg h1,if_neg h2,if_pos h3,if_neg (fun k=>by have:=k.c0;omega)]
  by_cases h4:e.1<e.2.2.1
  · rw[if_neg h1,if_neg h2,if_neg h3,if_pos h4,if_neg (fun k=>by have:=k.c1;omega)]
  rw[if_neg h1,if_neg h2,if_neg h3,if_neg h4]
  cases h5:e.2.2.2 with
  | false =>
    rw[tff,if_pos ⟨by omega,by omega,hv.1,hv.2,by omega,by omega,fun k=>by rw[h5] at k;cases k⟩]
  | true =>
    rw[tft]
    by_cases h6:e.2.1=0∧e.2.2.1=0
    · rw[if_pos ⟨by omega,by omega,hv.1,hv.2,by omega,by omega,fun _=>h6⟩]
      simp[h6]
    · rw[if_neg (fun k=>h6 (k.st h5))]
      by_cases h7:e.2.1=0
      · have h8:¬(e.2.2.1=0):=fun k=>h6 ⟨h7,k⟩
        simp[h7,h8]
      · simp[h7]
abbrev RowT:=List Lab×Ev
def evT (e:Ev):List UInt8 :=
  32::((if e.2.2.2=true then wStale else toB (decI e.2.1.toNat))++32::(nt e.1++(if 0<e.2.2.1 then 32::99::nt e.2.2.1 else [])))
def lineT (r:RowT):List UInt8:=textL r.1++evT r.2
theorem evT_len {e:Ev} (h:EvW e):(evT e).length≤100:=by
  have h1:=nt_len h.t
  have h2:=nt_len h.c
  have h3:=dec_len h.v.1 h.v.2
  unfold evT
  have h4:wStale.length=5:=rfl
  split<;>split<;>simp<;>omega
theorem ti_len (s:List UInt8):(List.map (fun y=>(((UInt8.toNat y):Nat):Int)) s).length=s.length:=by simp
theorem toB_map (s:List UInt8):toB (List.map (fun y=>(((UInt8.toNat y):Nat):Int)) s)=s:=toB_bytesI s
theorem toB_ap (a b:List Int):toB (a++b)=toB a++toB b:=by simp[toB]
theorem appendU2 (n:Nat) (dst:List Int) (hd:dst.length≤1000000) {v:Int} (h0:0≤v) (h1:v≤18446744073709551615):strconv_AppendUint (n+4) dst v 10=some (dst++decI v.toNat):=by
  have e:v=((v.toNat:Nat):Int):=by omega
  have:=appendUint_val n (u:=v.toNat) (by omega) dst hd
  rw[←e] at this
  rw[strconv_AppendUint_eq,this,obs]
theorem decI_len {v:Int} (h0:0≤v) (h1:v≤18446744073709551615):(decI v.toNat).length≤20:=by
  have:=dec_len h0 h1
  rw[toB_length] at this
  exact this
theorem toBm (l:List Int):List.map (fun y=>UInt8.ofNat (Int.toNat y)) l=toB l:=rfl
theorem text_line (n:Nat) (r:RowT) (hw:EvW r.2):text_Line (n+8) r=some (if LabOk r.1 then (if EvOk r.2 then (lineT r,0) else ([],2)) else ([],8)):=by
  rw[text_Line_eq,label_text n r.1,obs]
  by_cases hl:LabOk r.1
  · rw[if_pos hl,if_pos hl]
    have hlen:=textL_len hl
    simp only[tfd,decide_true,Bool.not_true,tff]
    rw[event_check (n+6) hw,obs]
    by_cases he:EvOk r.2
    · rw[if_pos he,if_pos he]
      have hT:=hw.t
      have hV:=hw.v
      have hC:=hw.c
      have hTl:=itoI_len hT.1 hT.2
      have hCl:=itoI_len hC.1 hC.2
      obtain ⟨L,hL⟩:∃L,L=List.map (fun y=>(((UInt8.toNat y):Nat):Int)) (textL r.1):=⟨_,rfl⟩
      have hLb:toB L=textL r.1:=by rw[hL,toB_map]
      have hLl:L.length≤10000:=by rw[hL,ti_len];exact hlen
      rw[if_pos (by omega)]
      simp only[←hL]
      have hd:=decI_len hV.1 hV.2
      have c1:(L.length+1)*1≤140737488355328:=by omega
      rw[if_pos c1]
      cases hst:r.2.2.2.2 with
      | true =>
        obtain ⟨hv0,hc0⟩:=he.st hst
        rw[tft,if_pos (by simp;omega),if_pos (by simp;omega),appendInt_val (n+2) hT.1 hT.2 _ (by simp;omega),obs,hc0,if_neg (by omega)]
        simp only[toBm,toB_ap,hLb]
        simp[lineT,evT,hst,hc0,nt,toB,wStale]
      | false =>
        rw[tff,appendU2 (n+3) _ (by simp;omega) hV.1 hV.2,obs,if_pos (by simp;omega),appendInt_val (n+2) hT.1 hT.2 _ (by simp;omega),obs]
        by_cases hc:0<r.2.2.2.1
        · rw[if_pos hc,if_pos (by simp;omega),if_pos (by simp;omega),appendInt_val (n+2) hC.1 hC.2 _ (by simp;omega),obs]
          simp only[toBm,toB_ap,hLb]
          simp[lineT,evT,hst,hc,nt,toB]
        · rw[if_neg hc]
          simp only[toBm,toB_ap,hLb]
          simp[lineT,evT,hst,hc,nt,toB]
    · rw[if_neg he,if_neg he]
      rfl
  · rw[if_neg hl,if_neg hl]
    rfl
theorem splitAt1 (c:UInt8):∀s:List UInt8,c ∉ s∨∃a t,s=a++c::t∧c ∉ a
  | [] => .inl (by simp)
  | d::s=>by
    by_cases hc:d=c
    · exact .inr ⟨[],s,by rw[hc];rfl,by simp⟩
    · rcases splitAt1 c s with h | ⟨a,t,h1,h2⟩
      · exact .inl (by simp;exact ⟨fun e=>hc e.symm,h⟩)
      · exact .inr ⟨d::a,t,by rw[h1];rfl,by simp;exact ⟨fun e=>hc e.symm,h2⟩⟩
def splC (c:UInt8):List UInt8→List (List UInt8)
  | []=>[[]]
  | d::t=>if d=c then []::splC c t else match splC c t with | []=>[[d]] | w::ws=>(d::w)::ws
theorem splC_cons (c d:UInt8) (t:List UInt8):splC c (d::t)=if d=c then []::splC c t else match splC c t with | []=>[[d]] | w::ws=>(d::w)::ws:=by rw[splC]
theorem splC_no {c:UInt8}:∀ {s:List UInt8},c ∉ s→splC c s=[s]
  | [],_=>rfl
  | d::s,h=>by
    have hd:¬d=c:=fun e=>h (by rw[e];exact List.mem_cons_self)
    rw[splC_cons,if_neg hd,splC_no (s:=s) fun k=>h (List.mem_cons_of_mem _ k)]
theorem splC_at {c:UInt8} (t:List UInt8):∀ {a:List UInt8},c ∉ a→splC c (a++c::t)=a::splC c t
  | [],_=>by
    show splC c (c::t)=_
    rw[splC_cons,if_pos rfl]
  | d::a,h=>by
    have hd:¬d=c:=fun e=>h (by rw[e];exact List.mem_cons_self)
    show splC c (d::(a++c::t))=_
    rw[splC_cons,if_neg hd,splC_at t (a:=a) fun k=>h (List.mem_cons_of_mem _ k)]
theorem count_no {c:UInt8} {s:List UInt8} (h:c ∉ s):Lib.count s [c]=0:=Lib.count_miss (index_no rfl h)
theorem count_at {c:UInt8} {a:List UInt8} (t:List UInt8) (h:c ∉ a):Lib.count (a++c::t) [c]=1+Lib.count t [c]:=by
  have:=Lib.count_hit (s:=a++c::t) (sub:=[c]) (by simp) (index_at (sub:=[c]) (r:=[]) (a:=a) (t:=t) rfl h)
  rw[this]
  congr 2
  rw[←List.drop_drop,List.drop_left]
  rfl
theorem count_len (c:UInt8):∀(k:Nat) (s:List UInt8),s.length≤k→Lib.count s [c]≤s.length∧(Lib.count s [c]=0→c ∉ s):=by
  intro k
  induction k with
  | zero =>
    intro s hs
    have:s=[]:=List.eq_nil_of_length_eq_zero (by omega)
    subst this
    rw[count_no (by simp)]
    simp
  | succ k ih =>
    intro s hs
    rcases splitAt1 c s with h | ⟨a,t,rfl,h⟩
    · rw[count_no h];exact ⟨Nat.zero_le _,fun _=>h⟩
    · rw[count_at t h]
      simp at hs
      have:=(ih t (by omega)).1
      exact ⟨by simp;omega,fun e=>by omega⟩
theorem set_last {α:Type} {l:List α} {k:Nat} (h:l.length=k+1) (x:α):l.set k x=l.take k++[x]:=by
  rw[List.set_eq_take_append_cons_drop,if_pos (by omega),List.drop_eq_nil_of_le (by omega)]
theorem gen_split_l (n:Nat) (N:Nat) (hN:N≤2000000):∀(k:Nat) (s:List UInt8) (A:List (List UInt8)) (i f:Nat),s.length≤k→s.length≤1000000→A.length=N+1→i+Lib.count s [32]=N→s.length<f →
    ∃s' A',strings_genSplit_l11 (n+2) f (s,[32],0,(N:Int),A,(i:Int),())=some (.inl (s',A',(N:Int),()))∧A'.length=N+1∧A'.take N++[s']=A.take i++splC 32 s:=by
  intro k
  induction k with
  | zero =>
    intro s A i f hs _ hA hc hf
    have:s=[]:=List.eq_nil_of_length_eq_zero (by omega)
    subst this
    rw[count_no (by simp)] at hc
    obtain ⟨f,rfl⟩:∃g,f=g+1:=⟨f-1,by omega⟩
    rw[strings_genSplit_l11_eq,tfd,if_neg (by omega)]
    have:i=N:=by omega
    subst this
    exact ⟨[],A,rfl,hA,rfl⟩
  | succ k ih =>
    intro s A i f hs hl hA hc hf
    obtain ⟨f,rfl⟩:∃g,f=g+1:=⟨f-1,by omega⟩
    rw[strings_genSplit_l11_eq,tfd]
    rcases splitAt1 32 s with h | ⟨a,t,rfl,h⟩
    · rw[count_no h] at hc
      have:i=N:=by omega
      subst this
      rw[if_neg (by omega)]
      exact ⟨s,A,rfl,hA,by rw[splC_no h]⟩
    · rw[count_at t h] at hc
      simp at hs hl hf
      have hidx:Lib.index (a++32::t) [32]=(a.length:Int):=index_at (sub:=[32]) (r:=[]) (a:=a) (t:=t) rfl h
      rw[if_pos (by omega),strings_Index_eq,stringslite_Index_eq,gIndex,tfd,if_pos (by simp;omega),obs,obs,hidx,tfd,if_neg (by omega)]
      have w0:IntKind.wrap .i64 ((a.length:Int)+0)=(a.length:Int):=by rw[w64 (by omega) (by omega)];omega
      have w1:IntKind.wrap .i64 ((a.length:Int)+((([(32:UInt8)].length:Nat)):Int))=((a.length+1:Nat):Int):=by
        rw[w64 (by simp;omega) (by simp;omega)];simp
      rw[w0,w1]
      have c1:(decide (0≤(a.length:Int))&&decide ((a.length:Int)≤(((a++32::t).length:Nat):Int)))=true:=by simp;omega
      rw[c1,tft]
      have hai:A[i]? = some A[i]:=List.getElem?_eq_getElem (by omega)
      have hat:at? A (i:Int)=some A[i]:=by
        unfold at?
        rw[show decide (0≤(i:Int))=true by simp]
        simp
      rw[hat,obs,show Int.toNat (i:Int)=i from Int.toNat_natCast i,hai,obs]
      simp only[tfd]
      rw[if_pos (by omega),if_pos (by simp)]
      simp only[Int.toNat_natCast]
      rw[w64 (x:=(i:Int)+1) (by omega) (by omega)]
      have e1:List.drop (a.length+1) (List.take (a++32::t).length (a++32::t))=t:=by
        rw[List.take_length,←List.drop_drop,List.drop_left];rfl
      have e2:List.drop 0 (List.take a.length (a++32::t))=a:=by rw[List.take_left];rfl
      rw[e1,e2]
      obtain ⟨s',A',h1,h2,h3⟩:=ih t (A.set i a) (i+1) f (by omega) (by omega) (by simpa using hA) (by omega) (by omega)
      refine ⟨s',A',by rw[show ((i:Int)+1)=((i+1:Nat):Int) by simp];exact h1,h2,?_⟩
      rw[h3,splC_at t h]
      have:(A.set i a).take (i+1)=A.take i++[a]:=by
        rw[List.take_set]
        rw[set_last (by simp;omega) a,List.take_take,show min i (i+1)=i by omega]
      rw[this];simp
theorem split_val (n:Nat) (s:List UInt8) (hs:s.length≤1000000):strings_Split (n+4) s [32]=some (splC 32 s):=by
  have hcl:=(count_len 32 s.length s (Nat.le_refl _)).1
  rw[strings_Split_eq,strings_genSplit_eq,tfd,if_neg (by decide)]
  rw[show (([(32:UInt8)]:List UInt8)==[])=false from rfl,tff,tfd,if_pos (by decide),strings_Count_eq,gCount]
  have c0:(decide (s.length<4294967281)&&decide (1≤[(32:UInt8)].length))=true:=by simp;omega
  rw[c0,tft,obs]
  have hcnt:((Lib.countB ⟨s.toArray⟩ ⟨#[32]⟩:Nat):Int)=((Lib.count s [32]:Nat):Int):=rfl
  rw[show ([(32:UInt8)].toArray) = #[32] from rfl,hcnt]
  obtain ⟨c,hc⟩:∃c,c=Lib.count s [32]:=⟨_,rfl⟩
  rw[←hc] at hcl ⊢
  have m1:(if IntKind.wrap .i64 (((s.length:Nat):Int)+1)<IntKind.wrap .i64 ((c:Int)+1) then IntKind.wrap .i64 (((s.length:Nat):Int)+1) else IntKind.wrap .i64 ((c:Int)+1))=((c+1:Nat):Int):=by
    rw[w64 (by omega) (by omega),w64 (by omega) (by omega),if_neg (by omega)];simp
  simp only[m1]
  have c2:(decide (0≤((c+1:Nat):Int))&&(decide (((c+1:Nat):Int)≤((c+1:Nat):Int))&&decide (((c+1:Nat):Int)*16≤140737488355328)))=true:=by simp;omega
  rw[c2,tft]
  have w2:IntKind.wrap .i64 (((c+1:Nat):Int)-1)=(c:Int):=by rw[w64 (by omega) (by omega)];omega
  rw[w2,Int.toNat_natCast]
  obtain ⟨s',A',h1,h2,h3⟩:=gen_split_l n c (by omega) s.length s (List.replicate (c+1) []) 0 loopFuel (Nat.le_refl _) hs (by simp) (by omega) (by unfold loopFuel;omega)
  have h1:strings_genSplit_l11 (n+2) loopFuel (s,[32],0,(c:Int),List.replicate (c+1) [],0,())=some (.inl (s',A',(c:Int),())):=h1
  rw[h1,obs,selim_inl]
  have hai:A'[c]? = some A'[c]:=List.getElem?_eq_getElem (by omega)
  have hat:at? A' (c:Int)=some A'[c]:=by
    unfold at?
    rw[show decide (0≤(c:Int))=true by simp]
    simp
  dsimp only
  rw[hat,obs,Int.toNat_natCast,hai,obs,w64 (x:=(c:Int)+1) (by omega) (by omega)]
  have c3:(decide (0≤(c:Int)+1)&&decide ((c:Int)+1≤(((A'.set c s').length:Nat):Int)))=true:=by simp;omega
  rw[c3,tft,show Int.toNat ((c:Int)+1)=c+1 by omega,set_last h2,h3,obs]
  have hlen:(List.take 0 (List.replicate (c+1) ([]:List UInt8))++splC 32 s).length=c+1:=by
    rw[←h3];simp;omega
  rw[show List.drop 0 (List.take 0 (List.replicate (c+1) ([]:List UInt8))++splC 32 s)=splC 32 s by simp]
  rw[List.take_of_length_le (by simp at hlen;omega)]
theorem piV_range (l:List UInt8):I64 (piV 64 l).1:=by
  unfold piV
  split
  · rename_i v h
    unfold Lib.parseIntB at h
    split at h
    · cases h
    · rename_i c r
      dsimp only at h
      split at h
      · cases h
      · cases h
      · rename_i u hu
        split at h
        · cases h
        split at h
        · cases h
        rename_i h1 h2
        injection h with h
        subst h
        show I64 _
        unfold I64
        split<;>simp only[not_and,Nat.not_lt,Nat.not_le] at h1 h2<;>(try have h1:=h1 ‹_›)<;>(try have h2:=h2 ‹_›)<;>omega
  · unfold I64;omega
  · unfold Lib.intSat I64
    split<;>constructor<;>simp
theorem piV_nt {x:Int} (h:0≤x) (h1:I64 x):piV 64 (nt x)=(x,false):=by
  rw[nt_nn h]
  have hu:x.toNat≤9223372036854775807:=by have:=h1.2;omega
  obtain ⟨c,r,hcr⟩:∃c r,toB (decI x.toNat)=c::r:=by
    cases hh:toB (decI x.toNat) with
    | nil=>exact absurd hh (decI_ne _)
    | cons c r=>exact ⟨c,r,rfl⟩
  have hc:48≤c.toNat:=by
    rcases Nat.lt_or_ge c.toNat 48 with h | h
    · exact absurd (show c∈toB (decI x.toNat) by rw[hcr];exact List.mem_cons_self) (dec_no _ h)
    · exact h
  have hp:Lib.parseUintB 64 (toB (decI x.toNat)) = .ok x.toNat:=by
    unfold Lib.parseUintB
    rw[if_neg (decI_ne _),parseM_dec (2^64-1) (by decide) _ _ (Nat.le_refl _) (by omega)]
  have:Lib.parseIntB 64 (toB (decI x.toNat)) = .ok x:=by
    rw[hcr] at hp ⊢
    unfold Lib.parseIntB
    dsimp only
    rw[if_neg (by omega),hp]
    dsimp only
    rw [if_neg (by rintro ⟨_, q⟩; have : (2 : Nat) ^ (64 - 1) = 9223372036854775808 := by decide
                   omega),if_neg (by rintro ⟨q,_⟩;omega),if_neg (by omega)]
    congr 1
    omega
  unfold piV
  rw[this]
theorem pint_val (n:Nat) (s:List UInt8) (hs:s.length≤1000000):strconv_ParseInt (n+1) s 10 64=some (piV 64 s):=by
  rw[strconv_ParseInt_eq,gParseInt]
  have c:(decide (s.length≤281474976710656)&&(decide ((10:Int)=10)&&decide ((64:Int)=64)))=true:=by simp;omega
  rw[c,tft]
theorem puint_val (n:Nat) (s:List UInt8) (hs:s.length≤1000000):strconv_ParseUint (n+1) s 10 64=some (puV 64 s):=by
  rw[strconv_ParseUint_eq,gParseUint]
  have c:(decide (s.length≤281474976710656)&&(decide ((10:Int)=10)&&(decide ((64:Int)=63)||decide ((64:Int)=64))))=true:=by simp;omega
  rw[c,tft]
  rfl
theorem last_l (n:Nat) (s:List UInt8) (hs:s.length≤1000000) (c:UInt8):∀(k f:Nat),k≤s.length→k<f →
    (bytealg_LastIndexByteString_l2 n f (s,((c.toNat:Nat):Int),(k:Int)-1,())=some (.inl ())∧c ∉ s.take k) ∨
    ∃a t,s.take k=a++c::t∧c ∉ t∧bytealg_LastIndexByteString_l2 n f (s,((c.toNat:Nat):Int),(k:Int)-1,())=some (.inr (a.length:Int)):=by
  intro k
  induction k with
  | zero =>
    intro f hk hf
    obtain ⟨f,rfl⟩:∃g,f=g+1:=⟨f-1,by omega⟩
    rw[bytealg_LastIndexByteString_l2_eq,tfd,if_neg (by omega)]
    exact .inl ⟨rfl,by simp⟩
  | succ k ih =>
    intro f hk hf
    obtain ⟨f,rfl⟩:∃g,f=g+1:=⟨f-1,by omega⟩
    have hsk:s[k]? = some s[k]:=List.getElem?_eq_getElem (by omega)
    have hat:at? s (((k+1:Nat):Int)-1)=some s[k]:=by
      rw[show (((k+1:Nat):Int)-1)=(k:Int) by omega]
      unfold at?
      rw[show decide (0≤(k:Int))=true by simp]
      simp
    have htk:s.take (k+1)=s.take k++[s[k]]:=by
      rw[List.take_add_one,hsk];rfl
    rw[bytealg_LastIndexByteString_l2_eq,tfd,if_pos (by omega),hat,obs,tfd,htk]
    by_cases hc:s[k]=c
    · rw[if_pos (by rw[hc])]
      refine .inr ⟨s.take k,[],by rw[hc],by simp,?_⟩
      rw[List.length_take,show (((k+1:Nat):Int)-1)=(k:Int) by omega]
      congr 2
      omega
    · have hcn:¬((((s[k]).toNat:Nat):Int)=((c.toNat:Nat):Int)):=fun e=>hc (UInt8.toNat_inj.1 (by omega))
      rw[if_neg hcn,w64 (by omega) (by omega),show (((k+1:Nat):Int)-1-1)=(k:Int)-1 by omega]
      rcases ih f (by omega) (by omega) with ⟨h1,h2⟩ | ⟨a,t,h1,h2,h3⟩
      · refine .inl ⟨h1,fun hm => ?_⟩
        rcases List.mem_append.1 hm with hm | hm
        · exact h2 hm
        · exact hc (List.mem_singleton.1 hm).symm
      · refine .inr ⟨a,t++[s[k]],by rw[h1,List.append_assoc];rfl,fun hm => ?_,h3⟩
        rcases List.mem_append.1 hm with hm | hm
        · exact h2 hm
        · exact hc (List.mem_singleton.1 hm).symm
theorem last_val (n:Nat) (s:List UInt8) (hs:s.length≤1000000) (c:UInt8) :
    (strings_LastIndexByte (n+2) s ((c.toNat:Nat):Int)=some (-1)∧c ∉ s)∨∃a t,s=a++c::t∧c ∉ t∧strings_LastIndexByte (n+2) s ((c.toNat:Nat):Int)=some (a.length:Int):=by
  rw[strings_LastIndexByte_eq,bytealg_LastIndexByteString_eq,w64 (by omega) (by omega)]
  rcases last_l n s hs c s.length loopFuel (Nat.le_refl _) (by unfold loopFuel;omega) with ⟨h1,h2⟩ | ⟨a,t,h1,h2,h3⟩
  · rw[h1]
    exact .inl ⟨rfl,by simpa using h2⟩
  · rw[h3]
    exact .inr ⟨a,t,by simpa using h1,h2,rfl⟩
theorem splC_mem {c:UInt8}:∀(s:List UInt8) (w:List UInt8),w∈splC c s→w.length≤s.length
  | [],w,h=>by
    have:w=[]:=by simpa [splC] using h
    subst this;simp
  | d::s,w,h=>by
    rw[splC_cons] at h
    have ih:=splC_mem (c:=c) s
    split at h
    · rcases List.mem_cons.1 h with rfl | h
      · simp
      · have:=ih w h;simp;omega
    · cases hs:splC c s with
      | nil =>
        rw[hs] at h
        have:w=[d]:=by simpa using h
        subst this;simp
      | cons x xs =>
        rw[hs] at h ih
        rcases List.mem_cons.1 h with rfl | h
        · have:=ih x List.mem_cons_self;simp;omega
        · have:=ih w (List.mem_cons_of_mem _ h);simp;omega
theorem puW (B:Nat) (hB:B=64) (l:List UInt8):0≤(puV B l).1∧(puV B l).1≤18446744073709551615:=by
  subst hB
  have:=puV_range 64 l
  exact ⟨this.1,by have:=this.2;simpa using this⟩
theorem i64z:I64 0:=by unfold I64;omega
theorem evW0:EvW ((0:Int),((0:Int),((0:Int),false))):=⟨i64z,by simp,i64z⟩
theorem tail_tot (n:Nat) (s:List UInt8) (hs:s.length≤1000000):∃e b,text_tail (n+5) s=some (e,b)∧EvW e:=by
  rw[text_tail_eq,split_val n s hs,obs]
  have hm:∀w∈splC 32 s,w.length≤1000000:=fun w hw=>by have:=splC_mem s w hw;omega
  obtain ⟨L,hL⟩:∃L,L=splC 32 s:=⟨_,rfl⟩
  rw[←hL] at hm ⊢
  have hP:∀w:List UInt8,w.length≤1000000→strconv_ParseInt (n+3) w 10 64=some (piV 64 w):=fun w h=>pint_val (n+2) w h
  have hU:∀w:List UInt8,w.length≤1000000→strconv_ParseUint (n+3) w 10 64=some (puV 64 w):=fun w h=>puint_val (n+2) w h
  have hC:∀w:List UInt8,strings_CutPrefix (n+3+1) w [99]=some (cutP 99 w):=fun w=>cutp_val (n+1) 99 w
  match L,hm with
  | [],_=>exact ⟨_,_,rfl,evW0⟩
  | [a],_=>exact ⟨_,_,rfl,evW0⟩
  | [a,b],_=>exact ⟨_,_,rfl,evW0⟩
  | [a,b,c],hm =>
    have hb:=hm b (by simp)
    have hc:=hm c (by simp)
    rw[tfd,if_neg (by simp),tfd,if_neg (by simp),show at? [a,b,c] 0=some a from rfl,obs]
    cases ha:(a==([]:List UInt8)) with
    | false=>exact ⟨_,_,rfl,evW0⟩
    | true =>
      rw[Bool.not_true,tff,show at? [a,b,c] 1=some b from rfl,obs,show at? [a,b,c] 2=some c from rfl,hU b hb]
      simp only[obs]
      rw[hP c hc]
      simp only[obs]
      cases hst:(b==[(115:UInt8),116,97,108,101]) with
      | true =>
        rw[tft,tfd,if_neg (by simp)]
        exact ⟨_,_,rfl,piV_range c,⟨by simp,by simp⟩,i64z⟩
      | false =>
        rw[tff]
        cases hu:(puV 64 b).2 with
        | false =>
          rw[Bool.not_false,tft,tfd,if_neg (by simp)]
          exact ⟨_,_,rfl,piV_range c,puW 64 rfl b,i64z⟩
        | true =>
          rw[Bool.not_true,tff,tfd,if_neg (by simp)]
          exact ⟨_,_,rfl,i64z,puW 64 rfl b,i64z⟩
  | [a,b,c,d],hm =>
    have hb:=hm b (by simp)
    have hc:=hm c (by simp)
    have hd:=hm d (by simp)
    have hd2:(cutP 99 d).1.length≤1000000:=by have:=cutP_len 99 d;omega
    rw[tfd,if_neg (by simp),tfd,if_neg (by simp),show at? [a,b,c,d] 0=some a from rfl,obs]
    cases ha:(a==([]:List UInt8)) with
    | false=>exact ⟨_,_,rfl,evW0⟩
    | true =>
      rw[Bool.not_true,tff,show at? [a,b,c,d] 1=some b from rfl,obs,show at? [a,b,c,d] 2=some c from rfl,show at? [a,b,c,d] 3=some d from rfl,hU b hb]
      simp only[obs]
      rw[hP c hc,hC d]
      simp only[obs]
      rw[hP _ hd2]
      simp only[obs]
      cases hst:(b==[(115:UInt8),116,97,108,101]) with
      | true =>
        rw[tft,tfd,if_pos (by simp)]
        cases hp:(piV 64 c).2 with
        | true=>exact ⟨_,_,rfl,piV_range c,⟨by simp,by simp⟩,i64z⟩
        | false =>
          rw[Bool.not_false,tft]
          cases hq:(cutP 99 d).2 with
          | false=>exact ⟨_,_,rfl,piV_range c,⟨by simp,by simp⟩,i64z⟩
          | true=>exact ⟨_,_,rfl,piV_range c,⟨by simp,by simp⟩,piV_range _⟩
      | false =>
        rw[tff]
        cases hu:(puV 64 b).2 with
        | true =>
          rw[Bool.not_true,tff,tfd,if_pos (by simp)]
          exact ⟨_,_,rfl,i64z,puW 64 rfl b,i64z⟩
        | false =>
          rw[Bool.not_false,tft,tfd,if_pos (by simp)]
          cases hp:(piV 64 c).2 with
          | true=>exact ⟨_,_,rfl,piV_range c,puW 64 rfl b,i64z⟩
          | false =>
            rw[Bool.not_false,tft]
            cases hq:(cutP 99 d).2 with
            | false=>exact ⟨_,_,rfl,piV_range c,puW 64 rfl b,i64z⟩
            | true=>exact ⟨_,_,rfl,piV_range c,puW 64 rfl b,piV_range _⟩
  | a::b::c::d::e::r,_ =>
    rw[tfd,if_neg (by simp;omega),tfd,if_pos (by simp;omega)]
    exact ⟨_,_,rfl,evW0⟩
def evV (e:Ev):List UInt8:=if e.2.2.2=true then wStale else toB (decI e.2.1.toNat)
theorem evV_no {e:Ev} {c:UInt8} (hc:c.toNat<48):c ∉ evV e:=by
  unfold evV
  split
  · intro h
    have:c=115∨c=116∨c=97∨c=108∨c=101:=by simpa [wStale] using h
    rcases this with rfl | rfl | rfl | rfl | rfl<;>simp at hc
  · exact dec_no _ hc
theorem nt_no2 {x:Int} (h:0≤x) {c:UInt8} (hc:c.toNat<48):c ∉ nt x:=by
  rw[nt_nn h];exact dec_no _ hc
theorem dec_no2 (u:Nat) {c:UInt8} (hc:57<c.toNat):c ∉ toB (decI u):=by
  intro h
  simp only[toB,List.mem_map] at h
  obtain ⟨x,hx,he⟩:=h
  have hr:=decI_range u x hx
  have:=congrArg UInt8.toNat he
  rw[UInt8.toNat_ofNat'] at this
  omega
theorem evT_spl {e:Ev} (h:EvOk e):splC 32 (evT e)=if 0<e.2.2.1 then [[],evV e,nt e.1,99::nt e.2.2.1] else [[],evV e,nt e.1]:=by
  have e0:evT e=[]++32::(evV e++32::(nt e.1++(if 0<e.2.2.1 then 32::99::nt e.2.2.1 else []))):=rfl
  rw[e0,splC_at _ (by simp),splC_at _ (evV_no (by decide))]
  split
  · rw[splC_at _ (nt_no2 h.t0 (by decide)),splC_no]
    intro hm
    rcases List.mem_cons.1 hm with hm | hm
    · exact absurd hm (by decide)
    · exact nt_no2 h.c0 (by decide) hm
  · rw[List.append_nil,splC_no (nt_no2 h.t0 (by decide))]
theorem tail_good (n:Nat) {e:Ev} (h:EvOk e) (hw:EvW e):text_tail (n+5) (evT e)=some (e,true):=by
  have hP:∀w:List UInt8,w.length≤1000000→strconv_ParseInt (n+3) w 10 64=some (piV 64 w):=fun w h=>pint_val (n+2) w h
  have hU:∀w:List UInt8,w.length≤1000000→strconv_ParseUint (n+3) w 10 64=some (puV 64 w):=fun w h=>puint_val (n+2) w h
  have hC:∀w:List UInt8,strings_CutPrefix (n+3+1) w [99]=some (cutP 99 w):=fun w=>cutp_val (n+1) 99 w
  have hl:=evT_len hw
  have hT:=nt_len hw.t
  have hCl:=nt_len hw.c
  have hpT:=piV_nt h.t0 hw.t
  have hpC:=piV_nt h.c0 hw.c
  have hcut:cutP 99 (99::nt e.2.2.1)=(nt e.2.2.1,true):=by
    show (if (99:UInt8)=99 then (nt e.2.2.1,true) else (99::nt e.2.2.1,false))=_
    rw[if_pos rfl]
  rw[text_tail_eq,split_val n _ (by omega),obs,evT_spl h]
  cases hst:e.2.2.2 with
  | true =>
    obtain ⟨hv0,hc0⟩:=h.st hst
    have hV:evV e=[115,116,97,108,101]:=by unfold evV;rw[if_pos hst];rfl
    rw[if_neg (by omega),hV,tfd,if_neg (by simp),tfd,if_neg (by simp)]
    have a0:∀x:List UInt8,at? [([]:List UInt8),[115,116,97,108,101],x] 0=some []:=fun _=>rfl
    have a1:∀x:List UInt8,at? [([]:List UInt8),[115,116,97,108,101],x] 1=some [115,116,97,108,101]:=fun _=>rfl
    have a2:∀x:List UInt8,at? [([]:List UInt8),[115,116,97,108,101],x] 2=some x:=fun _=>rfl
    rw[a0,obs,a1,a2]
    simp only[obs]
    rw[hP _ (by omega),hpT]
    simp only[obs]
    have:e=(e.1,0,0,true):=Prod.ext rfl (Prod.ext hv0 (Prod.ext hc0 hst))
    conv=>rhs;rw[this]
    rfl
  | false =>
    have hV:evV e=toB (decI e.2.1.toNat):=by unfold evV;rw[if_neg (by rw[hst];simp)]
    have hne:(toB (decI e.2.1.toNat)==[115,116,97,108,101])=false:=by
      cases hq:(toB (decI e.2.1.toNat)==[115,116,97,108,101]) with
      | false=>rfl
      | true =>
        have:=eq_of_beq hq
        exact absurd (show (115:UInt8)∈toB (decI e.2.1.toNat) by rw[this];simp) (dec_no2 _ (by decide))
    have hVl:=dec_len hw.v.1 hw.v.2
    have hpV:puV 64 (toB (decI e.2.1.toNat))=(e.2.1,false):=by
      rw[puV_dec 64 (by decide) (by have:=hw.v.2;omega),show ((e.2.1.toNat:Nat):Int)=e.2.1 by have:=hw.v.1;omega]
    rw[hV]
    by_cases hc:0<e.2.2.1
    · rw[if_pos hc,tfd,if_neg (by simp),tfd,if_neg (by simp)]
      have a0:∀x y z:List UInt8,at? [([]:List UInt8),x,y,z] 0=some []:=fun _ _ _=>rfl
      have a1:∀x y z:List UInt8,at? [([]:List UInt8),x,y,z] 1=some x:=fun _ _ _=>rfl
      have a2:∀x y z:List UInt8,at? [([]:List UInt8),x,y,z] 2=some y:=fun _ _ _=>rfl
      have a3:∀x y z:List UInt8,at? [([]:List UInt8),x,y,z] 3=some z:=fun _ _ _=>rfl
      rw[a0,obs,a1,a2,a3]
      simp only[obs]
      rw[hne,tff,hU _ (by omega),hpV]
      simp only[obs]
      rw[hP _ (by omega),hpT,hC,hcut]
      simp only[obs]
      rw[hP _ (by omega),hpC]
      simp only[obs]
      have:e=(e.1,e.2.1,e.2.2.1,false):=Prod.ext rfl (Prod.ext rfl (Prod.ext rfl hst))
      conv=>rhs;rw[this]
      simp[tif_ite]
    · rw[if_neg hc,tfd,if_neg (by simp),tfd,if_neg (by simp)]
      have hc0:e.2.2.1=0:=by have:=h.c0;omega
      have a0:∀x y:List UInt8,at? [([]:List UInt8),x,y] 0=some []:=fun _ _=>rfl
      have a1:∀x y:List UInt8,at? [([]:List UInt8),x,y] 1=some x:=fun _ _=>rfl
      have a2:∀x y:List UInt8,at? [([]:List UInt8),x,y] 2=some y:=fun _ _=>rfl
      rw[a0,obs,a1,a2]
      simp only[obs]
      rw[hne,tff,hU _ (by omega),hpV]
      simp only[obs]
      rw[hP _ (by omega),hpT]
      simp only[obs]
      have:e=(e.1,e.2.1,0,false):=Prod.ext rfl (Prod.ext rfl (Prod.ext hc0 hst))
      conv=>rhs;rw[this]
      simp[tif_ite]
def okR (r:RowT):Prop:=LabOk r.1∧EvOk r.2
noncomputable instance (r:RowT):Decidable (okR r):=Classical.propDecidable _
def z0R:RowT:=([],((0:Int),((0:Int),((0:Int),false))))
theorem evT_brace {e:Ev} (h:EvOk e):(125:UInt8) ∉ evT e:=by
  intro hm
  have n1:∀x:Int,0≤x→(125:UInt8) ∉ nt x:=fun x hx=>by rw[nt_nn hx];exact dec_no2 _ (by decide)
  have nv:(125:UInt8) ∉ evV e:=by
    unfold evV
    split
    · decide
    · exact dec_no2 _ (by decide)
  have hm:(125:UInt8)∈32::(evV e++32::(nt e.1++(if 0<e.2.2.1 then 32::99::nt e.2.2.1 else []))):=hm
  rcases List.mem_cons.1 hm with hm | hm
  · exact absurd hm (by decide)
  rcases List.mem_append.1 hm with hm | hm
  · exact nv hm
  rcases List.mem_cons.1 hm with hm | hm
  · exact absurd hm (by decide)
  rcases List.mem_append.1 hm with hm | hm
  · exact n1 _ h.t0 hm
  split at hm
  · rcases List.mem_cons.1 hm with hm | hm
    · exact absurd hm (by decide)
    rcases List.mem_cons.1 hm with hm | hm
    · exact absurd hm (by decide)
    · exact n1 _ h.c0 hm
  · cases hm
theorem text_parse (n:Nat) (s:List UInt8) (hs:s.length≤100000):∃p:RowT×Int,text_Parse (n+9) s=some p∧EvW p.1.2∧((p.2=0∧okR p.1∧lineT p.1=s)∨p=(z0R,4)):=by
  have key:∃i:Nat,i≤s.length∧∃j:Int,strings_LastIndexByte (n+8) s 125=some j∧j+1=(i:Int):=by
    rcases last_val (n+6) s (by omega) 125 with ⟨h1,_⟩ | ⟨a,t,h1,_,h3⟩
    · exact ⟨0,Nat.zero_le _,-1,h1,rfl⟩
    · exact ⟨a.length+1,by rw[h1];simp,_,h3,by simp⟩
  obtain ⟨i,hi,j,h1,hij⟩:=key
  rw[text_Parse_eq,h1,obs,w64 (x:=j+1) (by omega) (by omega),hij]
  simp only[Int.toNat_natCast]
  have c1:(decide ((0:Int)≤(i:Int))&&decide ((i:Int)≤((s.length:Nat):Int)))=true:=by simp;omega
  rw[c1,tft]
  obtain ⟨r,hr,hr2⟩:=label_parse_tot (n+1) (List.drop 0 (List.take i s)) (by simp;omega)
  obtain ⟨e,b,he,hew⟩:=tail_tot (n+3) (List.drop i (List.take s.length s)) (by simp;omega)
  rw[hr,obs]
  simp only[tfd]
  rw[if_pos (by omega),if_pos hi,he,obs]
  have bad:∃p:RowT×Int,(some (z0R,(4:Int)):Option (RowT×Int))=some p∧EvW p.1.2∧((p.2=0∧okR p.1∧lineT p.1=s)∨p=(z0R,4)):=⟨_,rfl,evW0,.inr rfl⟩
  cases hb1:(!decide (r.2=0)) with
  | true=>exact bad
  | false =>
    rw[tff]
    cases b with
    | false=>exact bad
    | true =>
      rw[Bool.not_true,tff,text_line n (r.1,e) hew]
      simp only[obs]
      by_cases ho:okR (r.1,e)
      · rw[if_pos ho.1,if_pos ho.2]
        simp only[decide_true,Bool.not_true,tff]
        cases hq:(lineT (r.1,e)==s) with
        | false=>exact bad
        | true=>exact ⟨_,rfl,hew,.inl ⟨rfl,ho,eq_of_beq hq⟩⟩
      · by_cases hl:LabOk (r.1,e).1
        · rw[if_pos hl,if_neg (fun k=>ho ⟨hl,k⟩)]
          exact bad
        · rw[if_neg hl]
          exact bad
theorem text_parse_good (n:Nat) {r:RowT} (h:okR r) (hw:EvW r.2):text_Parse (n+9) (lineT r)=some (r,0):=by
  have hl:=textL_len h.1
  have he:=evT_len hw
  obtain ⟨A,hA⟩:∃A,textL r.1=A++[125]:=⟨bodyL 123 r.1,rfl⟩
  have hline:lineT r=A++125::evT r.2:=by
    unfold lineT;rw[hA];simp
  have hAl:A.length+1=(textL r.1).length:=by rw[hA];simp
  have hsz:(lineT r).length=(textL r.1).length+(evT r.2).length:=by unfold lineT;simp
  have h1:strings_LastIndexByte (n+8) (lineT r) 125=some (A.length:Int):=by
    rcases last_val (n+6) (lineT r) (by omega) 125 with ⟨_,h1⟩ | ⟨a,t,h1,h2,h3⟩
    · exact absurd (show (125:UInt8)∈lineT r by rw[hline];simp) h1
    · have hq:a++125::t=A++125::evT r.2:=by rw[←h1,hline]
      have hlen:a.length=A.length:=by
        have e1:=congrArg List.reverse hq
        simp only[List.reverse_append,List.reverse_cons,List.append_assoc,List.singleton_append] at e1
        have e2:=evT_brace h.2
        have g:=splC_at (c:=125) a.reverse (a:=t.reverse) (fun k=>h2 (List.mem_reverse.1 k))
        have g2:=splC_at (c:=125) A.reverse (a:=(evT r.2).reverse) (fun k=>e2 (List.mem_reverse.1 k))
        have e3:t.reverse++125::a.reverse=(evT r.2).reverse++125::A.reverse:=e1
        rw[e3,g2] at g
        have g0:=(List.cons.inj g).1
        have gl:=congrArg List.length g0
        have ql:=congrArg List.length hq
        rw[List.length_reverse,List.length_reverse] at gl
        rw[List.length_append,List.length_append,List.length_cons,List.length_cons] at ql
        clear hq e1 e3 g g2 g0 hA hline h1 h3 h2 e2
        omega
      have h3':strings_LastIndexByte (n+8) (lineT r) 125=some (a.length:Int):=h3
      rw[h3',hlen]
  rw[text_Parse_eq,h1,obs,w64 (by omega) (by omega)]
  have hi:((A.length:Int)+1)=(((textL r.1).length:Nat):Int):=by omega
  rw[hi]
  simp only[Int.toNat_natCast]
  have c1:(decide ((0:Int)≤(((textL r.1).length:Nat):Int))&&decide ((((textL r.1).length:Nat):Int)≤(((lineT r).length:Nat):Int)))=true:=by simp;omega
  rw[c1,tft]
  have e1:List.drop 0 (List.take (textL r.1).length (lineT r))=textL r.1:=by unfold lineT;rw[List.take_left];rfl
  have e2:List.drop (textL r.1).length (List.take (lineT r).length (lineT r))=evT r.2:=by
    rw[List.take_length];unfold lineT;rw[List.drop_left]
  rw[e1,e2,label_parse_text (n+1) h.1,obs]
  simp only[tfd]
  rw[if_pos (by omega),if_pos (by omega),tail_good (n+3) h.2 hw,obs]
  simp only[decide_true,Bool.not_true,tff]
  rw[text_line n (r.1,r.2) hw]
  simp only[obs]
  rw[if_pos h.1,if_pos h.2]
  simp[tif_ite]
noncomputable def rowO (s:List UInt8):Option RowT:=open Classical in if h:∃r:RowT,okR r∧EvW r.2∧lineT r=s then some (Classical.choose h) else none
theorem rowO_some {s:List UInt8} {r:RowT} (h:rowO s=some r):okR r∧EvW r.2∧lineT r=s:=by
  unfold rowO at h
  split at h
  · rename_i q
    injection h with h
    subst h
    exact Classical.choose_spec q
  · cases h
theorem rowO_good {r:RowT} (h:okR r) (hw:EvW r.2):rowO (lineT r)=some r:=by
  have q:∃x:RowT,okR x∧EvW x.2∧lineT x=lineT r:=⟨r,h,hw,rfl⟩
  have hs:rowO (lineT r)=some (Classical.choose q):=by unfold rowO;rw[dif_pos q]
  obtain ⟨k1,k2,k3⟩:=rowO_some hs
  have e1:=text_parse_good 0 k1 k2
  rw[k3,text_parse_good 0 h hw] at e1
  injection e1 with e1
  injection e1 with e1
  rw[hs,←e1]
theorem text_parse_row (n:Nat) (s:List UInt8) (hs:s.length≤100000):text_Parse (n+9) s=some (match rowO s with | some r=>(r,0) | none=>(z0R,4)):=by
  cases h:rowO s with
  | some r =>
    obtain ⟨k1,k2,rfl⟩:=rowO_some h
    exact text_parse_good n k1 k2
  | none =>
    obtain ⟨p,h1,h2,h3⟩:=text_parse n s hs
    rw[h1]
    rcases h3 with ⟨_,h4,h5⟩ | h3
    · have:=rowO_good h4 h2
      rw[h5,h] at this
      cases this
    · rw[h3]
noncomputable def rowsL (L:List (List UInt8)):List RowT:=L.filterMap rowO
noncomputable def badL:List (List UInt8)→Nat
  | []=>0
  | s::L=>(match rowO s with | some _=>0 | none=>1)+badL L
theorem read_l (n:Nat):∀(L:List (List UInt8)) (out:List RowT) (others:Int),(∀s∈L,s.length≤100000)→out.length+L.length≤10000000→0≤others→others+L.length≤10000000 →
    text_Read_s5 (n+9) (L.map fun l=>(l,())) (out,others,())=some (out++rowsL L,others+(badL L:Int),()):=by
  intro L
  induction L with
  | nil=>intro out others _ _ _ _;rw[List.map_nil,text_Read_s5_nil];simp[rowsL,badL]
  | cons s L ih =>
    intro out others hL h1 h2 h3
    simp only[List.length_cons] at h1 h3
    rw[List.map_cons,text_Read_s5_cons]
    dsimp only
    rw[text_parse_row n s (hL s List.mem_cons_self),obs]
    have hL':∀s∈L,s.length≤100000:=fun x hx=>hL x (List.mem_cons_of_mem _ hx)
    cases hr:rowO s with
    | some r =>
      dsimp only
      simp only[decide_true,Bool.not_true,tff,tfd]
      rw[if_pos (by omega),obs,ih (out++[r]) others hL' (by simp;omega) h2 (by omega)]
      simp[rowsL,badL,hr]
    | none =>
      dsimp only
      rw[show (!decide ((4:Int)=0))=true by decide,tft,obs,w64 (by omega) (by omega),ih out (others+1) hL' (by omega) (by omega) (by omega)]
      simp[rowsL,badL,hr]
      omega
theorem text_read (n:Nat) (s:List UInt8) (hs:s.length≤1000000) (hL:∀l∈linesF (s.length+1) s,l.length≤100000) (hn:(linesF (s.length+1) s).length≤1000000) :
    text_Read (n+10) s=some (rowsL (linesF (s.length+1) s),(badL (linesF (s.length+1) s):Int)):=by
  rw[text_Read_eq,text_lines_eq,gLines,tfd,if_pos (by omega),obs,read_l n _ [] 0 hL (by simp;omega) (by omega) (by omega),obs]
  simp
theorem lib_cut (s sep:List UInt8):Lib.cut s sep=cutV s sep:=rfl
theorem linesF_nil:∀f,linesF f []=[]
  | 0=>rfl
  | f+1=>by unfold linesF;rw[if_pos rfl]
theorem linesF_at {a t:List UInt8} (ha:(10:UInt8) ∉ a) (f:Nat):linesF (f+1) (a++10::t)=(if lineOk a=true then [a] else [])++linesF f t:=by
  have hc:Lib.cut (a++10::t) [10]=(a,t,true):=by
    rw[lib_cut,show a++10::t=a++([10]++t) by simp];exact cutV_at ha
  conv=>lhs;unfold linesF
  rw[if_neg (by simp),hc]
theorem qt_no:∀s:List UInt8,(10:UInt8) ∉ qt s
  | []=>by simp[qt]
  | c::s=>by
    rw[qt_cons]
    intro h
    rcases List.mem_append.1 h with h | h
    · unfold qb at h
      split at h
      · simp at h
      split at h
      · rename_i h1 h2
        simp at h
        rw[←h] at h1
        exact h1 rfl
      split at h
      · rename_i h1 h2 h3
        simp at h
        rw[←h] at h1
        exact h1 rfl
      · rename_i h1 h2 h3
        simp at h
        rw[←h] at h1
        exact h1 rfl
    · exact qt_no s h
theorem bodyL_no:∀(l:List Lab) (c:UInt8),c≠10→(∀x∈l,NameOk x.1)→(10:UInt8) ∉ bodyL c l
  | [],c,_,_=>by simp[bodyL]
  | x::l,c,hc,hx=>by
    intro h
    have h:(10:UInt8)∈c::(labT x++bodyL 44 l):=h
    rcases List.mem_cons.1 h with h | h
    · exact hc h.symm
    rcases List.mem_append.1 h with h | h
    · unfold labT at h
      have hn:=NameOk.no (hx x List.mem_cons_self) (c:=10) (by unfold sgn;decide)
      have hq:=qt_no x.2
      simp only[List.mem_append] at h
      rcases h with ((h | h) | h) | h
      · exact hn h
      · simp at h
      · exact hq h
      · simp at h
    · exact bodyL_no l 44 (by decide) (fun y hy=>hx y (List.mem_cons_of_mem _ hy)) h
theorem evT_no {e:Ev} (h:EvOk e):(10:UInt8) ∉ evT e:=by
  intro hm
  have hm:(10:UInt8)∈32::(evV e++32::(nt e.1++(if 0<e.2.2.1 then 32::99::nt e.2.2.1 else []))):=hm
  rcases List.mem_cons.1 hm with hm | hm
  · exact absurd hm (by decide)
  rcases List.mem_append.1 hm with hm | hm
  · exact evV_no (by decide) hm
  rcases List.mem_cons.1 hm with hm | hm
  · exact absurd hm (by decide)
  rcases List.mem_append.1 hm with hm | hm
  · exact nt_no2 h.t0 (by decide) hm
  split at hm
  · rcases List.mem_cons.1 hm with hm | hm
    · exact absurd hm (by decide)
    rcases List.mem_cons.1 hm with hm | hm
    · exact absurd hm (by decide)
    · exact nt_no2 h.c0 (by decide) hm
  · cases hm
theorem lineT_no {r:RowT} (h:okR r):(10:UInt8) ∉ lineT r:=by
  intro hm
  unfold lineT textL at hm
  rcases List.mem_append.1 hm with hm | hm
  · rcases List.mem_append.1 hm with hm | hm
    · exact bodyL_no r.1 123 (by decide) (chkL_name _ _ h.1.c) hm
    · exact absurd (List.mem_singleton.1 hm) (by decide)
  · exact evT_no h.2 hm
theorem lineOk_line {r:RowT} (h:okR r):lineOk (lineT r)=true:=by
  unfold lineT textL
  rw[bodyL_ne h.1.ne]
  rfl
def allT (b:List UInt8):List RowT→List UInt8
  | []=>[]
  | r::rs=>lineT r++10::(b++10::allT b rs)
theorem allT_app (b:List UInt8) (r:RowT):∀l,allT b (l++[r])=allT b l++(lineT r++10::(b++[10]))
  | []=>by simp[allT]
  | x::l=>by simp[allT,allT_app b r l]
def linL (b:List UInt8):List RowT→List (List UInt8)
  | []=>[]
  | r::rs=>lineT r::((if lineOk b=true then [b] else [])++linL b rs)
theorem allT_lines {b:List UInt8} (hb:(10:UInt8) ∉ b):∀(l:List RowT) (f:Nat),(∀r∈l,okR r)→(allT b l).length<f→linesF f (allT b l)=linL b l
  | [],f,_,_=>linesF_nil f
  | r::l,f,h,hf=>by
    have hr:=h r List.mem_cons_self
    simp only[allT,List.length_append,List.length_cons] at hf
    obtain ⟨f,rfl⟩:∃g,f=g+2:=⟨f-2,by omega⟩
    show linesF (f+1+1) (lineT r++10::(b++10::allT b l))=_
    rw[linesF_at (lineT_no hr),linesF_at hb,lineOk_line hr,if_pos rfl,allT_lines hb l f (fun x hx=>h x (List.mem_cons_of_mem _ hx)) (by omega)]
    rfl
theorem linL_rows {b:List UInt8} (hb:rowO b=none):∀l:List RowT,(∀r∈l,okR r∧EvW r.2)→rowsL (linL b l)=l∧(badL (linL b l):Int)=(if lineOk b=true then 1 else 0)*(l.length:Int)
  | [],_=>by simp[rowsL,linL,badL]
  | r::l,h=>by
    obtain ⟨h1,h2⟩:=linL_rows hb l fun x hx=>h x (List.mem_cons_of_mem _ hx)
    have hr:=h r List.mem_cons_self
    have hg:=rowO_good hr.1 hr.2
    unfold rowsL at h1 ⊢
    by_cases ho:lineOk b=true
    · simp only[linL,ho,if_true,List.singleton_append,badL,hb] at h1 h2 ⊢
      rw[List.filterMap_cons_some hg,List.filterMap_cons_none hb,h1,hg]
      refine ⟨rfl,?_⟩
      simp;omega
    · simp only[linL,if_neg ho,List.nil_append,badL] at h1 h2 ⊢
      rw[List.filterMap_cons_some hg,h1,hg]
      refine ⟨rfl,?_⟩
      simp;omega
theorem lineT_len {r:RowT} (h:okR r) (hw:EvW r.2):(lineT r).length≤10100:=by
  have h1:=textL_len h.1
  have h2:=evT_len hw
  unfold lineT
  rw[List.length_append];omega
theorem allT_len (b:List UInt8) (hb:b.length≤1024):∀l:List RowT,(∀r∈l,okR r∧EvW r.2)→(allT b l).length≤11200*l.length
  | [],_=>by simp[allT]
  | r::l,h=>by
    have h1:=allT_len b hb l fun x hx=>h x (List.mem_cons_of_mem _ hx)
    have hr:=h r List.mem_cons_self
    have h2:=lineT_len hr.1 hr.2
    simp only[allT,List.length_append,List.length_cons]
    omega
theorem linL_mem (b:List UInt8) (hb:b.length≤1024):∀l:List RowT,(∀r∈l,okR r∧EvW r.2)→(∀s∈linL b l,s.length≤100000)∧(linL b l).length≤2*l.length
  | [],_=>⟨fun s hs=>by simp[linL] at hs,by simp[linL]⟩
  | r::l,h=>by
    obtain ⟨h1,h3⟩:=linL_mem b hb l fun x hx=>h x (List.mem_cons_of_mem _ hx)
    have hr:=h r List.mem_cons_self
    have h2:=lineT_len hr.1 hr.2
    refine ⟨fun s hs => ?_,?_⟩
    · rcases List.mem_cons.1 hs with rfl | hs
      · omega
      rcases List.mem_append.1 hs with hs | hs
      · split at hs
        · rw[List.mem_singleton.1 hs];omega
        · cases hs
      · exact h1 s hs
    · simp only[linL,List.length_cons,List.length_append]
      split<;>simp<;>omega
theorem r34_same (n:Nat) (a:RowT) (hl:a.1.length≤1000000):r34_Same (n+2) a a=some true:=by
  rw[r34_Same_eq,same5 n a.1 a.1 (by omega),obs]
  simp[tif_ite]
theorem r34_list_l (n:Nat) (l:List RowT) (hl:l.length≤1000000) (hw:∀r∈l,r.1.length≤1000000):∀(rest pre:List RowT) (f:Nat) (i:Int),l=pre++rest→i=pre.length →
    r34_SameList_l4 (n+2) (f+rest.length+1) (l,l,(l.length:Int),i,())=some (.inl ()):=by
  intro rest
  induction rest with
  | nil =>
    intro pre f i h hi
    rw[r34_SameList_l4_eq]
    simp only[tfd,if_neg (idxe h hi rfl)]
  | cons a rest ih =>
    intro pre f i h hi
    have hlen:=congrArg List.length h
    simp at hlen
    have ha:=hw a (by rw[h];simp)
    rw[show f+(a::rest).length+1=(f+rest.length+1)+1 by simp;omega,r34_SameList_l4_eq]
    simp only[tfd,if_pos (idx h hi rfl)]
    rw[at_mid h hi,obs,obs,r34_same n a ha,obs,w64 (x:=i+1) (by omega) (by omega),ih (pre++[a]) f (i+1) (idxl h) (idxs hi)]
    rfl
theorem r34_list (n:Nat) (l:List RowT) (hl:l.length≤1000000) (hw:∀r∈l,r.1.length≤1000000):r34_SameList (n+3) l l=some true:=by
  rw[r34_SameList_eq]
  have:=r34_list_l n l hl hw l [] (loopFuel-l.length-1) 0 rfl rfl
  rw[←lfu (by omega)] at this
  rw[this]
  simp
theorem small34_l (n:Nat) (l:List RowT) (hl:l.length≤9223372036854775807) (hw:∀r∈l,r.1.length≤9223372036854775807):∀(rest pre:List RowT) (f:Nat) (i:Int),l=pre++rest→i=pre.length→pre.length≤60 →
    ∃z,l34_Small_l2 (n+1) (f+rest.length+1) (l,(l.length:Int),i,())=some z∧(z = .inr 0∨(z = .inl ()∧pre.length+rest.length≤60∧∀r∈rest,r.1.length≤40)):=by
  intro rest
  induction rest with
  | nil =>
    intro pre f i h hi hp
    rw[l34_Small_l2_eq]
    simp only[tfd,if_neg (idxe h hi rfl)]
    exact ⟨_,rfl,.inr ⟨rfl,by simpa using hp,fun r hr=>by cases hr⟩⟩
  | cons a rest ih =>
    intro pre f i h hi hp
    have hlen:=congrArg List.length h
    simp at hlen
    rw[show f+(a::rest).length+1=(f+rest.length+1)+1 by simp;omega,l34_Small_l2_eq]
    simp only[tfd,if_pos (idx h hi rfl)]
    rw[at_mid h hi,obs]
    by_cases h60:i=60
    · rw[if_pos h60];exact ⟨_,rfl,.inl rfl⟩
    rw[if_neg h60]
    rcases labs_small n a.1 (hw a (by rw[h];simp)) with hs | ⟨hs,hs2⟩
    · rw[hs,obs,if_pos rfl];exact ⟨_,rfl,.inl rfl⟩
    · rw[hs,obs,if_neg (by decide),w64 (x:=i+1) (by omega) (by omega)]
      obtain ⟨z,z1,z2⟩:=ih (pre++[a]) f (i+1) (idxl h) (idxs hi) (by simp;omega)
      refine ⟨z,z1,?_⟩
      rcases z2 with z2 | ⟨q,z2,z3⟩
      · exact .inl z2
      · refine .inr ⟨q,by simp at z2 ⊢;omega,fun r hr => ?_⟩
        rcases List.mem_cons.1 hr with rfl | hr
        · exact hs2
        · exact z3 r hr
theorem small34 (n:Nat) (l:List RowT) (hl:l.length≤9223372036854775807) (hw:∀r∈l,r.1.length≤9223372036854775807):l34_Small (n+2) l=some 0∨(l34_Small (n+2) l=some 1∧l.length≤60∧∀r∈l,r.1.length≤40):=by
  rw[l34_Small_eq]
  by_cases hb:l.length≤1000000000000
  · obtain ⟨z,h1,h2⟩:=small34_l n l hl hw l [] (loopFuel-l.length-1) 0 rfl rfl (by simp)
    rw[←lfu hb] at h1
    rw[h1,obs]
    rcases h2 with rfl | ⟨rfl,h2,h3⟩
    · exact .inl rfl
    · exact .inr ⟨rfl,by simpa using h2,h3⟩
  · obtain ⟨z,h1,h2⟩:=small34_l n l hl hw l [] (loopFuel-l.length-1) 0 rfl rfl (by simp)
    rw[show loopFuel-l.length-1+l.length+1=loopFuel by unfold loopFuel;omega] at h1
    rw[h1,obs]
    rcases h2 with rfl | ⟨rfl,h2,h3⟩
    · exact .inl rfl
    · exact .inr ⟨rfl,by simpa using h2,h3⟩
theorem back12_l (n:Nat) (l:List RowT) (b:List UInt8) (hb:b.length≤1024) (A:List UInt8) (o:Int):∀(rest pre:List UInt8) (f:Nat) (i:Int),b=pre++rest→i=pre.length→(10:UInt8) ∉ pre →
    ∃z,l34_TextBack_l12 n (f+rest.length+1) (l,b,A,o,i,())=some z∧(z = .inr true∨(z = .inl (l,b,A,o,())∧(10:UInt8) ∉ b)):=by
  intro rest
  induction rest with
  | nil =>
    intro pre f i h hi hp
    rw[l34_TextBack_l12_eq]
    simp only[tfd,if_neg (idxe h hi rfl)]
    exact ⟨_,rfl,.inr ⟨rfl,by rw[h];simpa using hp⟩⟩
  | cons c rest ih =>
    intro pre f i h hi hp
    have hlen:=congrArg List.length h
    simp at hlen
    rw[show f+(c::rest).length+1=(f+rest.length+1)+1 by simp;omega,l34_TextBack_l12_eq]
    simp only[tfd,if_pos (idx h hi rfl)]
    rw[at_mid h hi,obs]
    by_cases hc:((c.toNat:Nat):Int)=10
    · rw[if_pos hc];exact ⟨_,rfl,.inl rfl⟩
    · rw[if_neg hc,w64 (x:=i+1) (by omega) (by omega)]
      refine ih (pre++[c]) f (i+1) (idxl h) (idxs hi) fun hm => ?_
      rcases List.mem_append.1 hm with hm | hm
      · exact hp hm
      · rw[←List.mem_singleton.1 hm] at hc;exact hc rfl
theorem back23_l (n:Nat) (l:List RowT) (hl:l.length≤60) (hw:∀r∈l,EvW r.2∧r.1.length≤40) (b:List UInt8) (hb:b.length≤1024) (o:Int) (ho:o=0∨o=1):∀(rest pre:List RowT) (f:Nat) (i m:Int) (A:List UInt8),l=pre++rest→i=pre.length→A=allT b pre→m=o*(pre.length:Int)→(∀r∈pre,okR r) →
    ∃z,l34_TextBack_l23 (n+9) (f+rest.length+1) (l,b,A,o,m,l,(l.length:Int),i,())=some z∧(z = .inr true∨(z = .inl (l,allT b l,o*(l.length:Int),())∧∀r∈l,okR r)):=by
  intro rest
  induction rest with
  | nil =>
    intro pre f i m A h hi hA hm hp
    rw[l34_TextBack_l23_eq]
    simp only[tfd,if_neg (idxe h hi rfl)]
    have hpl:pre=l:=by rw[h];simp
    subst hpl
    exact ⟨_,rfl,.inr ⟨by rw[hA,hm],hp⟩⟩
  | cons a rest ih =>
    intro pre f i m A h hi hA hm hp
    have hlen:=congrArg List.length h
    simp at hlen
    have ha:=hw a (by rw[h];simp)
    have hpw:∀r∈pre,okR r∧EvW r.2:=fun r hr=>⟨hp r hr,(hw r (by rw[h];simp[hr])).1⟩
    have hAl:=allT_len b hb pre hpw
    rw[←hA] at hAl
    rw[show f+(a::rest).length+1=(f+rest.length+1)+1 by simp;omega,l34_TextBack_l23_eq]
    simp only[tfd,if_pos (idx h hi rfl)]
    rw[at_mid h hi,obs,text_line (n+1) a ha.1,obs]
    by_cases hk:okR a
    · have hll:=lineT_len hk ha.1
      rw[if_pos hk.1,if_pos hk.2]
      simp only[decide_true,Bool.not_true,tff]
      rw[text_parse_good n hk ha.1,obs]
      simp only[decide_true,Bool.not_true,tff]
      rw[r34_same (n+7) a (by omega),obs,Bool.not_true,tff,if_pos (by omega),if_pos (by simp;omega),if_pos (by simp;omega),if_pos (by simp;omega),w64 (x:=i+1) (by omega) (by omega)]
      have hmo:IntKind.wrap .i64 (m+o)=o*(((pre++[a]).length:Nat):Int):=by
        rw[hm]
        rcases ho with rfl | rfl
        · rw[w64 (by omega) (by omega)];omega
        · rw[w64 (by omega) (by omega)];simp
      exact ih (pre++[a]) f (i+1) _ _ (idxl h) (idxs hi) (by rw[allT_app,hA];simp) hmo (fun r hr=>by
        rcases List.mem_append.1 hr with hr | hr
        · exact hp r hr
        · rw[List.mem_singleton.1 hr];exact hk)
    · refine ⟨.inr true,?_,.inl rfl⟩
      by_cases hlk:LabOk a.1
      · rw[if_pos hlk,if_neg (fun k=>hk ⟨hlk,k⟩)];rfl
      · rw[if_neg hlk];rfl
theorem back_fin (n:Nat) (l:List RowT) (hl:l.length≤60) (hw:∀r∈l,EvW r.2∧r.1.length≤40) (b:List UInt8) (hb:b.length≤1024) (hno:(10:UInt8) ∉ b) (hr:rowO b=none) (o:Int) (ho:o=if lineOk b=true then 1 else 0) :
    obind (l34_TextBack_l23 (n+49) loopFuel (l,(b,([],(o,((0:Int),(l,((((List.length l):Nat):Int),((0:Int),())))))))) ) (fun r8 =>
  selim (fun y9 =>
  obind (text_Read (n+49) y9.2.1) fun r10 =>
  obind (r34_SameList (n+49) r10.1 y9.1) fun r11 =>
  tif (r11) (
  some (decide (r10.2=y9.2.2.1))) (
  some false)) (fun z12 =>
  some z12) r8)=some true:=by
  have ho2:o=0∨o=1:=by rw[ho];split<;>simp
  obtain ⟨z,h1,h2⟩:=back23_l (n+40) l hl hw b hb o ho2 l [] (loopFuel-l.length-1) 0 0 [] rfl rfl rfl (by simp) (fun r hr=>by cases hr)
  rw[←lfu (by omega)] at h1
  rw[h1,obs]
  rcases h2 with rfl | ⟨rfl,h2⟩
  · rfl
  · have hok:∀r∈l,okR r∧EvW r.2:=fun r hr=>⟨h2 r hr,(hw r hr).1⟩
    have hln:=allT_lines hno l ((allT b l).length+1) h2 (Nat.lt_succ_self _)
    have hal:=allT_len b hb l hok
    obtain ⟨m1,m2⟩:=linL_mem b hb l hok
    obtain ⟨q1,q2⟩:=linL_rows hr l hok
    rw[selim_inl]
    dsimp only
    rw[text_read (n+39) (allT b l) (by omega) (by rw[hln];exact m1) (by rw[hln];omega),obs,hln,q1,q2,r34_list (n+46) l (by omega) (fun r hr=>by have:=(hw r hr).2;omega),obs,ho]
    simp
theorem back_rest (n:Nat) (l:List RowT) (hl:l.length≤60) (hw:∀r∈l,EvW r.2∧r.1.length≤40) (between:List UInt8) (hb:between.length≤1024) :
  (obind (l34_TextBack_l12 (n+49) loopFuel (l,(between,([],((0:Int),((0:Int),())))))) fun r24 =>
  selim (fun y25 =>
  obind (text_Parse (n+49) y25.2.1) fun r26 =>
  tif ((decide (r26.2=(0:Int)))) (
  some true) (
  tif ((!(y25.2.1==[]))) (
  obind (at? y25.2.1 (0:Int)) fun r27 =>
  tif ((!(decide ((((UInt8.toNat r27):Nat):Int)=(35:Int))))) (
  obind (l34_TextBack_l23 (n+49) loopFuel (y25.1,(y25.2.1,(y25.2.2.1,((1:Int),((0:Int),(y25.1,((((List.length y25.1):Nat):Int),((0:Int),()))))))))) fun r28 =>
  selim (fun y29 =>
  obind (text_Read (n+49) y29.2.1) fun r30 =>
  obind (r34_SameList (n+49) r30.1 y29.1) fun r31 =>
  tif (r31) (
  some (decide (r30.2=y29.2.2.1))) (
  some false)) (fun z32 =>
  some z32) r28) (
  obind (l34_TextBack_l23 (n+49) loopFuel (y25.1,(y25.2.1,(y25.2.2.1,(y25.2.2.2.1,((0:Int),(y25.1,((((List.length y25.1):Nat):Int),((0:Int),()))))))))) fun r33 =>
  selim (fun y34 =>
  obind (text_Read (n+49) y34.2.1) fun r35 =>
  obind (r34_SameList (n+49) r35.1 y34.1) fun r36 =>
  tif (r36) (
  some (decide (r35.2=y34.2.2.1))) (
  some false)) (fun z37 =>
  some z37) r33)) (
  obind (l34_TextBack_l23 (n+49) loopFuel (y25.1,(y25.2.1,(y25.2.2.1,(y25.2.2.2.1,((0:Int),(y25.1,((((List.length y25.1):Nat):Int),((0:Int),()))))))))) fun r38 =>
  selim (fun y39 =>
  obind (text_Read (n+49) y39.2.1) fun r40 =>
  obind (r34_SameList (n+49) r40.1 y39.1) fun r41 =>
  tif (r41) (
  some (decide (r40.2=y39.2.2.1))) (
  some false)) (fun z42 =>
  some z42) r38))) (fun z43 =>
  some z43) r24)=some true:=by
  obtain ⟨z,h1,h2⟩:=back12_l (n+49) l between hb [] 0 between [] (loopFuel-between.length-1) 0 rfl rfl (by simp)
  rw[←lfu (by omega)] at h1
  rw[h1,obs]
  rcases h2 with rfl | ⟨rfl,hno⟩
  · rfl
  rw[selim_inl]
  dsimp only
  rw[text_parse_row (n+40) between (by omega),obs]
  cases hr:rowO between with
  | some r=>rfl
  | none =>
    dsimp only
    rw[tfd,if_neg (by decide)]
    cases between with
    | nil =>
      rw[show (!(([]:List UInt8)==([]:List UInt8)))=false from rfl,tff]
      exact back_fin n l hl hw [] (by simp) (by simp) hr 0 (by simp[lineOk])
    | cons c t =>
      rw[show (!((c::t)==([]:List UInt8)))=true from rfl,tft,show at? (c::t) 0=some c from rfl,obs]
      by_cases hc:((c.toNat:Nat):Int)=35
      · rw[decide_eq_true hc,Bool.not_true,tff]
        have : c = 35 := UInt8.toNat_inj.1 (by have : (35 : UInt8).toNat = 35 := rfl
                                               omega)
        subst this
        exact back_fin n l hl hw _ hb hno hr 0 rfl
      · rw[decide_eq_false hc,Bool.not_false,tft]
        have hok:lineOk (c::t)=true:=by
          have hne:¬c=35:=fun e=>hc (by rw[e];rfl)
          have hne2:¬(35:UInt8)=c:=fun e=>hne e.symm
          simp[lineOk,Lib.hasPrefix,List.isPrefixOf,hne2]
        exact back_fin n l hl hw _ hb hno hr 1 (by rw[hok];rfl)
theorem row_wf {r:RowT} (h:Wf tyRow r):EvW r.2:=by
  obtain ⟨_,hT⟩:=h
  obtain ⟨t1,t2,t3,_⟩:=hT
  exact ⟨t1,t2,t3⟩
theorem textBack_true (n:Nat) (hlv:l34_lives (n+49)=some true) (l:List RowT) (line between:List UInt8) (hw:Wf (.slice tyRow) l):l34_TextBack (n+50) l line between=some true:=by
  have hll:l.length≤9223372036854775807:=hw.1
  have hlw:∀r∈l,Wf tyRow r:=hw.2
  rw[l34_TextBack_eq,hlv,obs,Bool.not_true,tff]
  rcases small34 (n+47) l hll (fun r hr=>(hlw r hr).1.1) with h | ⟨h,hl,h40⟩
  · rw[h,obs,tfd,if_pos rfl]
  rw[h,obs,tfd,if_neg (by decide),tfd]
  by_cases h1:(4096:Int)<((line.length:Nat):Int)
  · rw[if_pos h1]
  rw[if_neg h1,tfd]
  by_cases h2:(1024:Int)<((between.length:Nat):Int)
  · rw[if_pos h2]
  rw[if_neg h2]
  have hR:=back_rest n l hl (fun r hr=>⟨row_wf (hlw r hr),h40 r hr⟩) between (by omega)
  rw[text_parse_row (n+40) line (by omega),obs]
  cases hr:rowO line with
  | none =>
    dsimp only
    rw[tfd,if_neg (by decide)]
    exact hR
  | some r =>
    obtain ⟨k1,k2,rfl⟩:=rowO_some hr
    dsimp only
    rw[tfd,if_pos rfl,text_line (n+41) r k2,obs,if_pos k1.1,if_pos k1.2]
    simp only[decide_true,Bool.not_true,tff]
    rw[show (lineT r==lineT r)=true by simp,Bool.not_true,tff]
    exact hR
end Go.Proofs.YtgcaeappeolhjaaDoor
namespace Go.Proofs.YtgcaeappeolhjaaDoor
open Go.Flat
theorem ob {α β:Type} {o:Option α} {x:α} {f:α→Option β} {r:Option β} (h:o=some x) (k:f x=r):obind o f=r:=by rw[h];exact k
theorem tt {α:Type} {b:Bool} {x y r:α} (h:b=true) (k:x=r):tif b x y=r:=by rw[h];exact k
theorem tf {α:Type} {b:Bool} {x y r:α} (h:b=false) (k:y=r):tif b x y=r:=by rw[h];exact k
end Go.Proofs.YtgcaeappeolhjaaDoor
namespace Go.Proofs.YtgcaeappeolhjaaDoor
open Go.Flat
set_option linter.unusedVariables false
theorem lvl34_lives_eq (n:Nat)  : l34_lives (n+1)  =
  obind (text_All n ((((((97:UInt8)::[]),((120:UInt8)::((125:UInt8)::[])))::[]),((7:Int),((5:Int),((3:Int),false))))::((((((97:UInt8)::[]),((120:UInt8)::((125:UInt8)::[])))::[]),((8:Int),((0:Int),((0:Int),true))))::[]))) fun r0 =>
  tif ((decide ((((List.length r0.1):Nat):Int)=(0:Int)))) (
  some false) (
  tif ((decide ((4+(List.length r0.1))≤9223372036854775807))) (
  tif ((decide (((List.length (((35:UInt8)::((32:UInt8)::((120:UInt8)::((10:UInt8)::[]))))++r0.1))+5)≤9223372036854775807))) (
  tif (((decide ((0:Int)≤(IntKind.wrap .i64 ((((List.length r0.1):Nat):Int)-(1:Int)))))&&(decide ((IntKind.wrap .i64 ((((List.length r0.1):Nat):Int)-(1:Int)))≤(((List.length r0.1):Nat):Int))))) (
  tif ((decide (((List.length ((((35:UInt8)::((32:UInt8)::((120:UInt8)::((10:UInt8)::[]))))++r0.1)++((10:UInt8)::((102:UInt8)::((111:UInt8)::((111:UInt8)::((10:UInt8)::[])))))))+(List.length (List.drop 0 (List.take (Int.toNat (IntKind.wrap .i64 ((((List.length r0.1):Nat):Int)-(1:Int)))) r0.1))))≤9223372036854775807))) (
  obind (text_Read n (((((35:UInt8)::((32:UInt8)::((120:UInt8)::((10:UInt8)::[]))))++r0.1)++((10:UInt8)::((102:UInt8)::((111:UInt8)::((111:UInt8)::((10:UInt8)::[]))))))++(List.drop 0 (List.take (Int.toNat (IntKind.wrap .i64 ((((List.length r0.1):Nat):Int)-(1:Int)))) r0.1)))) fun r1 =>
  obind (text_Parse n ((123:UInt8)::((97:UInt8)::((61:UInt8)::((34:UInt8)::((120:UInt8)::((125:UInt8)::((34:UInt8)::((125:UInt8)::((32:UInt8)::((53:UInt8)::((32:UInt8)::((55:UInt8)::((32:UInt8)::((99:UInt8)::((51:UInt8)::[])))))))))))))))) fun r2 =>
  obind (text_Parse n ((123:UInt8)::((97:UInt8)::((61:UInt8)::((34:UInt8)::((120:UInt8)::((125:UInt8)::((34:UInt8)::((125:UInt8)::((32:UInt8)::((53:UInt8)::((32:UInt8)::((55:UInt8)::((32:UInt8)::((99:UInt8)::((48:UInt8)::[])))))))))))))))) fun r3 =>
  obind (text_Line n (((((97:UInt8)::[]),((120:UInt8)::((125:UInt8)::[])))::[]),(((-1):Int),((0:Int),((0:Int),false))))) fun r4 =>
  obind (text_Line n ([],((0:Int),((0:Int),((0:Int),false))))) fun r5 =>
  tif ((r0.1==((123:UInt8)::((97:UInt8)::((61:UInt8)::((34:UInt8)::((120:UInt8)::((125:UInt8)::((34:UInt8)::((125:UInt8)::((32:UInt8)::((53:UInt8)::((32:UInt8)::((55:UInt8)::((32:UInt8)::((99:UInt8)::((51:UInt8)::((10:UInt8)::((123:UInt8)::((97:UInt8)::((61:UInt8)::((34:UInt8)::((120:UInt8)::((125:UInt8)::((34:UInt8)::((125:UInt8)::((32:UInt8)::((115:UInt8)::((116:UInt8)::((97:UInt8)::((108:UInt8)::((101:UInt8)::((32:UInt8)::((56:UInt8)::((10:UInt8)::[]))))))))))))))))))))))))))))))))))) (
  tif ((decide (r0.2=(0:Int)))) (
  tif ((decide ((((List.length r1.1):Nat):Int)=(4:Int)))) (
  tif ((decide (r1.2=(1:Int)))) (
  obind (at? r1.1 (0:Int)) fun r6 =>
  obind (text_Same n r6 (((((97:UInt8)::[]),((120:UInt8)::((125:UInt8)::[])))::[]),((7:Int),((5:Int),((3:Int),false))))) fun r7 =>
  tif (r7) (
  obind (at? r1.1 (3:Int)) fun r8 =>
  obind (text_Same n r8 (((((97:UInt8)::[]),((120:UInt8)::((125:UInt8)::[])))::[]),((8:Int),((0:Int),((0:Int),true))))) fun r9 =>
  tif (r9) (
  obind (text_Same n r2.1 (((((97:UInt8)::[]),((120:UInt8)::((125:UInt8)::[])))::[]),((7:Int),((5:Int),((3:Int),false))))) fun r10 =>
  tif (r10) (
  tif ((decide (r2.2=(0:Int)))) (
  tif ((decide (r3.2=(4:Int)))) (
  tif ((decide (r4.2=(2:Int)))) (
  tif ((decide (r5.2=(8:Int)))) (
  obind (text_Same n (((((97:UInt8)::[]),((120:UInt8)::((125:UInt8)::[])))::[]),((7:Int),((5:Int),((3:Int),false)))) (((((97:UInt8)::[]),((120:UInt8)::((125:UInt8)::[])))::[]),((8:Int),((0:Int),((0:Int),true))))) fun r11 =>
  some (!r11)) (
  some false)) (
  some false)) (
  some false)) (
  some false)) (
  some false)) (
  some false)) (
  some false)) (
  some false)) (
  some false)) (
  some false)) (
  some false)) (
  none)) (
  none)) (
  none)) (
  none)):=by kernel_rfl
theorem lvl34_lives_0 (n:Nat):text_All (n+39) [([([97],[120,125])],(7,(5,(3,false)))),([([97],[120,125])],(8,(0,(0,true))))]=some ([123,97,61,34,120,125,34,125,32,53,32,55,32,99,51,10,123,97,61,34,120,125,34,125,32,115,116,97,108,101,32,56,10],0):=by kernel_rfl
theorem lvl34_lives_1 (n:Nat):text_Read (n+39) [35,32,120,10,123,97,61,34,120,125,34,125,32,53,32,55,32,99,51,10,123,97,61,34,120,125,34,125,32,115,116,97,108,101,32,56,10,10,102,111,111,10,123,97,61,34,120,125,34,125,32,53,32,55,32,99,51,10,123,97,61,34,120,125,34,125,32,115,116,97,108,101,32,56]=some ([([([97],[120,125])],(7,(5,(3,false)))),([([97],[120,125])],(8,(0,(0,true)))),([([97],[120,125])],(7,(5,(3,false)))),([([97],[120,125])],(8,(0,(0,true))))],1):=by kernel_rfl
theorem lvl34_lives_2 (n:Nat):text_Parse (n+39) [123,97,61,34,120,125,34,125,32,53,32,55,32,99,51]=some (([([97],[120,125])],(7,(5,(3,false)))),0):=by kernel_rfl
theorem lvl34_lives_3 (n:Nat):text_Parse (n+39) [123,97,61,34,120,125,34,125,32,53,32,55,32,99,48]=some (([],(0,(0,(0,false)))),4):=by kernel_rfl
theorem lvl34_lives_4 (n:Nat):text_Line (n+39) ([([97],[120,125])],((-1),(0,(0,false))))=some ([],2):=by kernel_rfl
theorem lvl34_lives_5 (n:Nat):text_Line (n+39) ([],(0,(0,(0,false))))=some ([],8):=by kernel_rfl
theorem lvl34_lives_6 (n:Nat):text_Same (n+39) ([([97],[120,125])],(7,(5,(3,false)))) ([([97],[120,125])],(7,(5,(3,false))))=some true:=by kernel_rfl
theorem lvl34_lives_7 (n:Nat):text_Same (n+39) ([([97],[120,125])],(8,(0,(0,true)))) ([([97],[120,125])],(8,(0,(0,true))))=some true:=by kernel_rfl
theorem lvl34_lives_8 (n:Nat):text_Same (n+39) ([([97],[120,125])],(7,(5,(3,false)))) ([([97],[120,125])],(8,(0,(0,true))))=some false:=by kernel_rfl
theorem l34_lives_true (n:Nat):l34_lives (n+40)=some true:=by
  rw[lvl34_lives_eq]
  refine ob (lvl34_lives_0 n) ?_
  refine tf (by kernel_rfl) ?_
  refine tt (by kernel_rfl) ?_
  refine tt (by kernel_rfl) ?_
  refine tt (by kernel_rfl) ?_
  refine tt (by kernel_rfl) ?_
  refine ob (lvl34_lives_1 n) ?_
  refine ob (lvl34_lives_2 n) ?_
  refine ob (lvl34_lives_3 n) ?_
  refine ob (lvl34_lives_4 n) ?_
  refine ob (lvl34_lives_5 n) ?_
  refine tt (by kernel_rfl) ?_
  refine tt (by kernel_rfl) ?_
  refine tt (by kernel_rfl) ?_
  refine tt (by kernel_rfl) ?_
  refine ob (x:=([([97],[120,125])],(7,(5,(3,false))))) (by kernel_rfl) ?_
  refine ob (lvl34_lives_6 n) ?_
  refine tt (by kernel_rfl) ?_
  refine ob (x:=([([97],[120,125])],(8,(0,(0,true))))) (by kernel_rfl) ?_
  refine ob (lvl34_lives_7 n) ?_
  refine tt (by kernel_rfl) ?_
  refine ob (lvl34_lives_6 n) ?_
  refine tt (by kernel_rfl) ?_
  refine tt (by kernel_rfl) ?_
  refine tt (by kernel_rfl) ?_
  refine tt (by kernel_rfl) ?_
  refine tt (by kernel_rfl) ?_
  refine ob (lvl34_lives_8 n) ?_
  kernel_rfl
end Go.Proofs.YtgcaeappeolhjaaDoor
namespace Go.Proofs.YtgcaeappeolhjaaDoor
open Go.Flat Go.Plim
theorem textBack_law (l:List RowT) (line between:List UInt8) (hl:Wf (.slice tyRow) l):l34_TextBack 50 l line between=some true:=textBack_true 0 (l34_lives_true 9) l line between hl
end Go.Proofs.YtgcaeappeolhjaaDoor
