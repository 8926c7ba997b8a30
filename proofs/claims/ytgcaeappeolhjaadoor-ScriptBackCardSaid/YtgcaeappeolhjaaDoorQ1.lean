/-
  Plain proofs about the functions of this seat, part 1 of 1.
-/
import Derived.IntWalk
import Derived.Test.YtgcaeappeolhjaaDoorTr
import Derived.Test.YtgcaeappeolhjaaDoorFlatM3
namespace Go.Plim
set_option linter.unusedVariables false
abbrev Wd:=Int×Int
abbrev Ev:=Int×(Int×(Int×Bool))
abbrev Cel:=Int×(Ev×(Ev×(Wd×(Int×(Int×Int)))))
instance decWd:DecidableEq Wd:=inferInstanceAs (DecidableEq (Int×Int))
instance decEv:DecidableEq Ev:=inferInstanceAs (DecidableEq (Int×(Int×(Int×Bool))))
def wv (a:Wd):Int:=a.1*18446744073709551616+a.2
structure WdOk (a:Wd):Prop where
  hi:0≤a.1∧a.1≤18446744073709551615
  lo:0≤a.2∧a.2≤18446744073709551615
def e0:Ev:=(0,(0,(0,false)))
structure EvOk (e:Ev):Prop where
  t0:0≤e.1
  t1:e.1<35184372088832
  v0:0≤e.2.1
  v1:e.2.1≤18446744073709551615
  c0:0≤e.2.2.1
  c1:e.2.2.1≤e.1
  st:e.2.2.2=true→e.2.1=0∧e.2.2.1=0
structure DlOk (d:Int×(Int×(Int×Int))) (s:Int):Prop where
  i:0≤d.1∧d.1≤18446744073709551615
  r:0≤d.2.1
  g:0≤d.2.2.1
  rg:d.2.1+d.2.2.1≤1
  s:0≤d.2.2.2∧d.2.2.2≤s
def z0:Cel:=(0,(e0,(e0,((0,0),(0,(0,0))))))
structure CellN (c:Cel):Prop where
  n1:1≤c.1
  f:EvOk c.2.1
  l:EvOk c.2.2.1
  one:c.1=1→c.2.1=c.2.2.1
  more:1<c.1→c.2.1.1<c.2.2.1.1
  n2:c.1-1≤c.2.2.1.1-c.2.1.1
  w:WdOk c.2.2.2.1
  inc:wv c.2.2.2.1≤18446744073709551615*(c.1-1)
  r:0≤c.2.2.2.2.1
  g:0≤c.2.2.2.2.2.1
  rg:c.2.2.2.2.1+c.2.2.2.2.2.1≤c.1-1
  s0:0≤c.2.2.2.2.2.2
  s1:c.2.2.2.2.2.2≤c.2.2.1.1-c.2.1.1
def CellOk (c:Cel):Prop:=c=z0∨CellN c
theorem CellN.ne {c:Cel} (h:CellN c):c≠z0:=by
  intro e;have:=h.n1;rw[e] at this;simp[z0] at this
theorem CellN.ok {c:Cel} (h:CellN c):CellOk c := .inr h
theorem CellOk.n {c:Cel} (h:CellOk c) (hz:c≠z0):CellN c:=h.resolve_left hz
theorem CellN.ft {c:Cel} (h:CellN c):c.2.1.1≤c.2.2.1.1:=by have:=h.n1;have:=h.n2;omega
theorem CellN.small {c:Cel} (h:CellN c):c.1≤35184372088832:=by
  have:=h.n2;have:=h.f.t0;have:=h.l.t1;omega
structure Foll (l:List Ev):Prop where
  ok:∀e∈l,EvOk e
  inc:l.Pairwise fun a b=>a.1<b.1
theorem Foll.nil:Foll []:=⟨by simp,.nil⟩
theorem Foll.sub {l m:List Ev} (h:Foll l) (s:m.Sublist l):Foll m:=⟨fun e he=>h.ok e (s.subset he),h.inc.sublist s⟩
structure Has (l:List Ev) (c:Cel):Prop where
  n:CellN c
  cnt:c.1=l.length
  first:l.head? = some c.2.1
  last:l.getLast? = some c.2.2.1
end Go.Plim

namespace Go.Proofs.YtgcaeappeolhjaaDoor
open Go.Flat Go.Plim
set_option linter.unusedVariables false
set_option linter.unusedSimpArgs false
theorem shr_nat (x:Int) (k:Nat) (hk:k≤64):shrI .u64 x (k:Int)=x / 2^k:=by
  unfold shrI
  rw[show min (k:Int).toNat IntKind.u64.bits=k from by show min (k:Int).toNat 64=k;omega]
  exact Int.fdiv_eq_ediv_of_nonneg _ (Int.le_of_lt (Int.pow_pos (by decide)))
theorem at_mid {α:Type} {l pre rest:List α} {x:α} {i:Int} (h:l=pre++x::rest) (hi:i=pre.length):at? l i=some x:=by
  subst h hi;simp[at?]
theorem idx {α:Type} {l pre rest:List α} {x:α} {i len:Int} (h:l=pre++x::rest) (hi:i=pre.length) (hn:len=l.length):i<len:=by
  have:=congrArg List.length h
  simp at this
  omega
theorem idxe {α:Type} {l pre:List α} {i len:Int} (h:l=pre++[]) (hi:i=pre.length) (hn:len=l.length):¬(i<len):=by
  have:=congrArg List.length h
  simp at this
  omega
theorem idxw {α:Type} {l pre rest:List α} {x:α} {i:Int} (h:l=pre++x::rest) (hi:i=pre.length) (hL:l.length≤1000000000000):IntKind.wrap .i64 (i+1)=i+1:=by
  have:=congrArg List.length h
  simp at this
  rw[w64 (by omega) (by omega)]
theorem idxs {α:Type} {pre:List α} {x:α} {i:Int} (hi:i=pre.length):i+1=((pre++[x]).length:Int):=by simp;omega
theorem idxl {α:Type} {l pre rest:List α} {x:α} (h:l=pre++x::rest):l=(pre++[x])++rest:=by rw[h];simp
theorem evEq (a b:Ev):((decide (a.1=b.1))&&((decide (a.2.1=b.2.1))&&((decide (a.2.2.1=b.2.2.1))&&(a.2.2.2==b.2.2.2))))=decide (a=b):=by
  rw[Bool.eq_iff_iff];simp[Prod.ext_iff]
def I64 (x:Int):Prop := -9223372036854775808≤x∧x≤9223372036854775807
structure EvW (e:Ev):Prop where
  t:I64 e.1
  v:0≤e.2.1∧e.2.1≤18446744073709551615
  c:I64 e.2.2.1
structure CelW (c:Cel):Prop where
  n:I64 c.1
  f:EvW c.2.1
  l:EvW c.2.2.1
  w:WdOk c.2.2.2.1
  r:I64 c.2.2.2.2.1
  g:I64 c.2.2.2.2.2.1
  s:I64 c.2.2.2.2.2.2
theorem EvW.of {e:Ev} (h:EvOk e):EvW e:=by
  obtain ⟨a,b,c,d,f,g,_⟩:=h
  exact ⟨by unfold I64;omega,⟨c,d⟩,by unfold I64;omega⟩
theorem CelW.ofN {c:Cel} (h:CellN c):CelW c:=by
  have:=h.small;have:=h.n1;have:=h.f.t0;have:=h.f.t1;have:=h.l.t0;have:=h.l.t1;have:=h.r;have:=h.g;have:=h.rg;have:=h.s0;have:=h.s1
  exact ⟨by unfold I64;omega,.of h.f,.of h.l,h.w,by unfold I64;omega,by unfold I64;omega,by unfold I64;omega⟩
theorem celW_z0:CelW z0:=⟨by simp[I64,z0],⟨by simp[I64,z0,e0],by simp[z0,e0],by simp[I64,z0,e0]⟩,⟨by simp[I64,z0,e0],by simp[z0,e0],by simp[I64,z0,e0]⟩,⟨by simp[z0],by simp[z0]⟩,by simp[I64,z0],by simp[I64,z0],by simp[I64,z0]⟩
theorem CelW.of {c:Cel} (h:CellOk c):CelW c:=by
  rcases h with rfl | h
  · exact celW_z0
  · exact .ofN h
abbrev Lab:=List UInt8×List UInt8
def sgn (c:Int):Prop:=(97≤c∧c≤122)∨(65≤c∧c≤90)∨(48≤c∧c≤57)∨c=95
instance (c:Int):Decidable (sgn c):=by unfold sgn;infer_instance
def digitP (c:Int):Prop:=48≤c∧c≤57
instance (c:Int):Decidable (digitP c):=by unfold digitP;infer_instance
def NameOk:List UInt8→Prop
  | []=>False
  | b::r=>(b::r).length≤64∧¬digitP (b.toNat:Int)∧∀x∈b::r,sgn (x.toNat:Int)
instance:(s:List UInt8)→Decidable (NameOk s)
  | [] => .isFalse id
  | b::r=>by unfold NameOk;infer_instance
theorem low_all:∀c:Fin 256,(97≤orI .u8 (c.val:Int) 32∧orI .u8 (c.val:Int) 32≤122)↔((97≤(c.val:Int)∧(c.val:Int)≤122)∨(65≤(c.val:Int)∧(c.val:Int)≤90)):=by decide +kernel
theorem low (c:Int) (h:0≤c∧c≤255):(97≤orI .u8 c 32∧orI .u8 c 32≤122)↔((97≤c∧c≤122)∨(65≤c∧c≤90)):=by
  obtain ⟨k,rfl⟩:=Int.eq_ofNat_of_zero_le h.1
  exact low_all ⟨k,by omega⟩
theorem label_digit_val (n:Nat) (c:Int):label_digit (n+1) c=some (decide (digitP c)):=by
  rw[label_digit_eq]
  unfold digitP
  by_cases h1:(48:Int)≤c<;>by_cases h2:c≤57<;>simp[h1,h2]
theorem label_sign_val (n:Nat) (c:Int) (h:0≤c∧c≤255):label_sign (n+2) c=some (decide (sgn c)):=by
  rw[label_sign_eq,label_digit_val]
  simp only[obs,tfd]
  have hl:=low c h
  by_cases h1:digitP c
  · rw[if_pos h1,decide_eq_true (show sgn c from .inr (.inr (.inl h1)))]
  rw[if_neg h1]
  by_cases h2:c=95
  · rw[if_pos h2,decide_eq_true (show sgn c from .inr (.inr (.inr h2)))]
  rw[if_neg h2]
  by_cases h3:97≤orI .u8 c 32
  · rw[if_pos h3]
    refine congrArg some (decide_eq_decide.2 ?_)
    constructor
    · intro k
      rcases hl.1 ⟨h3,k⟩ with q | q
      · exact .inl q
      · exact .inr (.inl q)
    · intro k
      rcases k with k | k | k | k
      · exact (hl.2 (.inl k)).2
      · exact (hl.2 (.inr k)).2
      · exact absurd k h1
      · exact absurd k h2
  · rw[if_neg h3,decide_eq_false]
    intro k
    rcases k with k | k | k | k
    · exact h3 (hl.2 (.inl k)).1
    · exact h3 (hl.2 (.inr k)).1
    · exact h1 k
    · exact h2 k
theorem index_byte (n:Nat) {del:Int×Unit→Option Bool} {p:Int→Bool} (l:List Int) (hL:l.length≤1000000000000) (hd:∀x∈l,del (x,())=some (p x)):∀(rest pre:List Int) (f:Nat) (i len:Int),l=pre++rest→i=pre.length→len=l.length→rest.length<f →
    (sl_IndexFunc_byte_l2 n f (l,del,len,i,())=some (.inl ())∧∀x∈rest,p x=false) ∨
    (∃k:Int,0≤k∧sl_IndexFunc_byte_l2 n f (l,del,len,i,())=some (.inr k)∧∃x∈rest,p x=true):=by
  intro rest
  induction rest with
  | nil =>
    intro pre f i len hl hi hn hf
    obtain ⟨f,rfl⟩:∃g,f=g+1:=⟨f-1,by simp at hf;omega⟩
    rw[sl_IndexFunc_byte_l2_eq]
    exact .inl ⟨by simp only[tfd,if_neg (idxe hl hi hn)],by simp⟩
  | cons x rest ih =>
    intro pre f i len hl hi hn hf
    obtain ⟨f,rfl⟩:∃g,f=g+1:=⟨f-1,by simp at hf;omega⟩
    rw[sl_IndexFunc_byte_l2_eq]
    simp only[tfd,if_pos (idx hl hi hn),at_mid hl hi,obs,hd x (by rw[hl];simp),idxw hl hi hL]
    cases hp:p x with
    | true=>exact .inr ⟨i,by omega,by simp,x,by simp,hp⟩
    | false =>
      rw[tff]
      rcases ih (pre++[x]) f (i+1) len (idxl hl) (idxs hi) hn (by simp at hf;omega) with ⟨h1,h2⟩ | ⟨k,h1,h2,y,hy,h3⟩
      · exact .inl ⟨h1,by intro z hz;rcases List.mem_cons.1 hz with rfl | hz;exact hp;exact h2 z hz⟩
      · exact .inr ⟨k,h1,h2,y,by simp[hy],h3⟩
theorem contains_byte (n:Nat) {del:Int×Unit→Option Bool} {p:Int→Bool} (l:List Int) (hL:l.length≤1000000000000) (hd:∀x∈l,del (x,())=some (p x)):sl_ContainsFunc_byte (n+2) l del=some (l.any p):=by
  rw[sl_ContainsFunc_byte_eq,sl_IndexFunc_byte_eq]
  rcases index_byte n l hL hd l [] loopFuel 0 l.length rfl rfl rfl (by unfold loopFuel;omega) with ⟨h1,h2⟩ | ⟨k,h1,h2,x,hx,h3⟩
  · rw[h1]
    have:l.any p=false:=by rw[List.any_eq_false];intro x hx;simp[h2 x hx]
    rw[this];rfl
  · rw[h2]
    have:l.any p=true:=List.any_eq_true.2 ⟨x,hx,h3⟩
    simp[this,h1]
theorem label_name_val (n:Nat) (s:List UInt8):label_name (n+5) s=some (decide (NameOk s)):=by
  rw[label_name_eq]
  match s with
  | []=>rfl
  | b::r =>
    have e1:((b::r)==[])=false:=rfl
    have e2:at? (b::r) (0:Int)=some b:=rfl
    rw[e1,tff,e2,obs,label_digit_val,obs]
    simp only[tfd]
    by_cases h1:(64:Int)<(b::r).length
    · rw[if_pos h1,decide_eq_false (fun k:NameOk (b::r)=>by have:=k.1;omega)]
    rw[if_neg h1]
    by_cases h2:digitP (b.toNat:Int)
    · rw[if_pos h2,decide_eq_false (fun k:NameOk (b::r)=>k.2.1 h2)]
    rw[if_neg h2,contains_byte (p:=fun c => !decide (sgn c)) (n+2) _ (by simp at h1 ⊢;omega) (fun x hx=>by
      obtain ⟨c,_,rfl⟩:=List.mem_map.1 hx
      have:=c.toNat_lt
      show label_name_1 (n+3+1) _=_
      rw[label_name_1_eq,label_sign_val (n+1) _ (by omega)];rfl)]
    simp only[obs]
    refine congrArg some ?_
    by_cases h3:∀x∈b::r,sgn (x.toNat:Int)
    · rw[decide_eq_true (show NameOk (b::r) from ⟨by omega,h2,h3⟩)]
      rw[List.any_eq_false.2]
      · rfl
      · intro x hx
        obtain ⟨c,hc,rfl⟩:=List.mem_map.1 hx
        simp[h3 c hc]
    · rw[decide_eq_false (fun k:NameOk (b::r)=>h3 k.2.2)]
      have:∃x∈b::r,¬sgn (x.toNat:Int):=Classical.byContradiction fun k=>h3 fun x hx=>Classical.byContradiction fun q=>k ⟨x,hx,q⟩
      obtain ⟨x,hx,hq⟩:=this
      rw[List.any_eq_true.2 ⟨(x.toNat:Int),List.mem_map.2 ⟨x,hx,rfl⟩,by simp[hq]⟩]
      rfl
def chkL:Option (List UInt8)→List Lab→Prop
  | _,[]=>True
  | p,x::r=>NameOk x.1∧x.2.length≤128∧(∀q,p=some q→Op.bytesLess q x.1=true)∧chkL (some x.1) r
def sumL (l:List Lab):Int:=(l.map fun x=>((x.1.length:Int)+x.2.length)).sum
theorem sumL_nn (l:List Lab):0≤sumL l:=by
  induction l with
  | nil=>simp[sumL]
  | cons x l ih=>simp only[sumL,List.map_cons,List.sum_cons] at *;omega
theorem sumL_cons (x:Lab) (l:List Lab):sumL (x::l)=x.1.length+x.2.length+sumL l:=by simp[sumL]
theorem NameOk.len {s:List UInt8} (h:NameOk s):s.length≤64:=by
  match s with
  | []=>simp
  | b::r=>exact h.1
structure LabOk (l:List Lab):Prop where
  n0:1≤l.length
  n1:l.length≤16
  c:chkL none l
  t:sumL l≤256
noncomputable instance (l:List Lab):Decidable (LabOk l):=Classical.propDecidable _
theorem prev_at {l pre rest:List Lab} {x:Lab} {i:Int} (hl:l=pre++x::rest) (hi:i=pre.length) (hL:l.length≤1000000) (h:0<i):∃q,pre.getLast? = some q∧at? l (IntKind.wrap .i64 (i-1))=some q:=by
  rcases List.eq_nil_or_concat pre with rfl | ⟨q,y,rfl⟩
  · simp at hi;omega
  rw[List.concat_eq_append] at *
  have hlen:=congrArg List.length hl
  simp at hlen hi
  refine ⟨y,by simp,?_⟩
  rw[w64 (by omega) (by omega)]
  exact at_mid (pre:=q) (rest:=x::rest) (by rw[hl];simp) (by omega)
theorem label_check_l (n:Nat) (l:List Lab) (hL:l.length≤16):∀(rest pre:List Lab) (f:Nat) (left i len:Int),l=pre++rest→i=pre.length→len=l.length→rest.length<f→0≤left→left≤256 →
    (chkL (pre.getLast?.map (·.1)) rest∧sumL rest≤left→label_Check_l5 (n+5) f (l,left,l,len,i,())=some (.inl ())) ∧
    (¬(chkL (pre.getLast?.map (·.1)) rest∧sumL rest≤left)→label_Check_l5 (n+5) f (l,left,l,len,i,())=some (.inr 8)):=by
  intro rest
  induction rest with
  | nil =>
    intro pre f left i len hl hi hn hf h0 h1
    obtain ⟨f,rfl⟩:∃g,f=g+1:=⟨f-1,by simp at hf;omega⟩
    rw[label_Check_l5_eq]
    refine ⟨fun _=>by simp only[tfd,if_neg (idxe hl hi hn)],fun k=>absurd ⟨trivial,by simpa [sumL] using h0⟩ k⟩
  | cons x rest ih =>
    intro pre f left i len hl hi hn hf h0 h1
    obtain ⟨f,rfl⟩:∃g,f=g+1:=⟨f-1,by simp at hf;omega⟩
    rw[label_Check_l5_eq]
    have hsn:=sumL_nn rest
    simp only[tfd,tfn,if_pos (idx hl hi hn),at_mid hl hi,obs,idxw hl hi (by omega),label_name_val n x.1]
    rw[sumL_cons]
    by_cases c1:NameOk x.1
    case neg=>rw[if_neg c1];exact ⟨fun k=>absurd k.1.1 c1,fun _=>rfl⟩
    rw[if_pos c1]
    have hn1:=c1.len
    by_cases c2:(128:Int)<x.2.length
    · rw[if_pos c2];exact ⟨fun k=>by have:=k.1.2.1;omega,fun _=>rfl⟩
    rw[if_neg c2,w64 (x:=(x.1.length:Int)+x.2.length) (by omega) (by omega),w64 (x:=left-((x.1.length:Int)+x.2.length)) (by omega) (by omega)]
    by_cases c3:left-((x.1.length:Int)+x.2.length)<0
    · rw[if_pos c3];exact ⟨fun k=>by have:=k.2;omega,fun _=>rfl⟩
    rw[if_neg c3]
    have ih':=ih (pre++[x]) f (left-((x.1.length:Int)+x.2.length)) (i+1) len (idxl hl) (idxs hi) hn (by simp at hf;omega) (by omega) (by omega)
    have el:(pre++[x]).getLast?.map (·.1)=some x.1:=by simp
    rw[el] at ih'
    have step:(∀q,pre.getLast?.map (·.1)=some q→Op.bytesLess q x.1=true) →
        ((chkL (pre.getLast?.map (·.1)) (x::rest)∧(x.1.length:Int)+x.2.length+sumL rest≤left)↔(chkL (some x.1) rest∧sumL rest≤left-((x.1.length:Int)+x.2.length))):=by
      intro hq
      constructor
      · rintro ⟨k1,k2⟩;exact ⟨k1.2.2.2,by omega⟩
      · rintro ⟨k1,k2⟩;exact ⟨⟨c1,by omega,hq,k1⟩,by omega⟩
    by_cases c4:0<i
    · obtain ⟨q,hq,hat⟩:=prev_at hl hi (by omega) c4
      rw[if_pos c4,hat,obs]
      by_cases c5:Op.bytesLess q.1 x.1=true
      · rw[c5,tft,step (fun z hz=>by rw[hq] at hz;simp at hz;rw[←hz];exact c5)]
        exact ih'
      · have c5':Op.bytesLess q.1 x.1=false:=by simpa using c5
        rw[c5',tff]
        exact ⟨fun k=>absurd (k.1.2.2.1 q.1 (by rw[hq];rfl)) c5,fun _=>rfl⟩
    · have hp:pre=[]:=List.length_eq_zero_iff.1 (by omega)
      rw[if_neg c4,step (fun z hz=>by rw[hp] at hz;cases hz)]
      exact ih'
theorem label_check (n:Nat) (l:List Lab):label_Check (n+6) l=some (if LabOk l then 0 else 8):=by
  rw[label_Check_eq]
  simp only[tfd]
  by_cases h1:(l.length:Int)=0
  · rw[if_pos h1,if_neg (fun k:LabOk l=>by have:=k.n0;omega)]
  by_cases h2:(16:Int)<l.length
  · rw[if_neg h1,if_pos h2,if_neg (fun k:LabOk l=>by have:=k.n1;omega)]
  rw[if_neg h1,if_neg h2]
  have hl:=label_check_l n l (by omega) l [] loopFuel 256 0 l.length rfl rfl rfl (by unfold loopFuel;omega) (by decide) (by decide)
  by_cases h3:chkL none l∧sumL l≤256
  · rw[hl.1 h3,if_pos (⟨by omega,by omega,h3.1,h3.2⟩:LabOk l)];rfl
  · rw[hl.2 h3,if_neg (fun k:LabOk l=>h3 ⟨k.c,k.t⟩)];rfl
theorem labEq (a b:Lab):((a.1==b.1)&&(a.2==b.2))=decide (a=b):=by
  rw[Bool.eq_iff_iff];simp[Prod.ext_iff]
def qb (c:UInt8):List UInt8:=if c.toNat=10 then [92,110] else if c.toNat=34 then [92,c] else if c.toNat=92 then [92,c] else [c]
def qt (s:List UInt8):List UInt8:=s.flatMap qb
theorem qb_len (c:UInt8):(qb c).length≤2:=by
  unfold qb
  split
  · simp
  split
  · simp
  split<;>simp
theorem qt_cons (c:UInt8) (s:List UInt8):qt (c::s)=qb c++qt s:=rfl
theorem qt_len:∀s:List UInt8,(qt s).length≤2*s.length
  | []=>by simp[qt]
  | c::s=>by
    have:=qb_len c
    have:=qt_len s
    rw[qt_cons,List.length_append,List.length_cons];omega
theorem wb (n:Nat) (b:List UInt8) {c:Int} {u:UInt8} (hc:c=(u.toNat:Int)) (hl:b.length≤100000000000000):strings_Builder_WriteByte (n+1) b c=some (false,b++[u]):=by
  have h1:=u.toNat_lt
  rw[strings_Builder_WriteByte_eq,gWriteByte,tif_ite,if_pos (by simp;omega),hc]
  simp
theorem wst (n:Nat) (b s:List UInt8) (hl:b.length+s.length≤100000000000000):strings_Builder_WriteString (n+1) b s=some ((s.length:Int),false,b++s):=by
  rw[strings_Builder_WriteString_eq,gWriteString,tfd,if_pos (by omega)]
theorem at_midI {s pre rest:List UInt8} {c:UInt8} {i:Int} (h:s=pre++c::rest) (hi:i=pre.length):at? (List.map (fun y=>(((UInt8.toNat y):Nat):Int)) s) i=some ((c.toNat:Nat):Int) :=
  at_mid (pre:=pre.map fun y=>(((UInt8.toNat y):Nat):Int)) (rest:=rest.map fun y=>(((UInt8.toNat y):Nat):Int)) (by rw[h];simp) (by simpa using hi)
theorem quote_l (n:Nat) (s:List UInt8) (hs:s.length≤1000000000000):∀(rest pre:List UInt8) (f:Nat) (b:List UInt8) (i:Int),s=pre++rest→i=pre.length→b.length+2*rest.length≤10000000000000 →
    label_quote_l2 (n+1) (f+rest.length+1) (b,List.map (fun y=>(((UInt8.toNat y):Nat):Int)) s,(s.length:Int),i,())=some (.inl (b++qt rest,())):=by
  intro rest
  induction rest with
  | nil =>
    intro pre f b i h hi hb
    rw[label_quote_l2_eq]
    simp only[tfd,if_neg (idxe h hi rfl)]
    simp[qt]
  | cons c rest ih =>
    intro pre f b i h hi hb
    rw[show f+(c::rest).length+1=(f+rest.length+1)+1 by simp;omega,label_quote_l2_eq]
    simp only[tfd,if_pos (idx h hi rfl)]
    rw[at_midI h hi,obs,idxw h hi (by omega)]
    simp only[List.length_cons] at hb
    have hc:=c.toNat_lt
    have e110:(110:Int)=(((110:UInt8).toNat:Nat):Int):=rfl
    have e92:(92:Int)=(((92:UInt8).toNat:Nat):Int):=rfl
    have hn:=fun (b':List UInt8) (hb':b'.length≤b.length+2)=>ih (pre++[c]) f b' (i+1) (idxl h) (idxs hi) (by omega)
    rw[qt_cons]
    unfold qb
    by_cases h10:c.toNat=10
    · rw[if_pos (show ((c.toNat:Nat):Int)=10 by omega),if_pos h10,wb n b e92 (by omega),obs,wb n _ e110 (by simp;omega),obs,hn _ (by simp)]
      simp
    rw[if_neg (show ¬((c.toNat:Nat):Int)=10 by omega),if_neg h10]
    by_cases h34:c.toNat=34
    · have q:((c.toNat:Nat):Int)=34:=by omega
      rw[if_pos q,if_pos q,if_pos h34,wb n b e92 (by omega),obs,wb n _ rfl (by simp;omega),obs,hn _ (by simp)]
      simp
    rw[if_neg (show ¬((c.toNat:Nat):Int)=34 by omega),if_neg h34]
    by_cases h92:c.toNat=92
    · rw[if_pos (show ((c.toNat:Nat):Int)=92 by omega),if_pos h92,wb n b e92 (by omega),obs,wb n _ rfl (by simp;omega),obs,hn _ (by simp)]
      simp
    · rw[if_neg (show ¬((c.toNat:Nat):Int)=92 by omega),if_neg h92,wb n b rfl (by omega),obs,hn _ (by simp)]
      simp
theorem lfu {k:Nat} (h:k≤1000000000000):loopFuel=(loopFuel-k-1)+k+1:=by unfold loopFuel;omega
theorem quote_val (n:Nat) (b s:List UInt8) (hs:s.length≤1000000000000) (hb:b.length≤1000000000000):label_quote (n+2) b s=some (b++[34]++qt s++[34]):=by
  rw[label_quote_eq]
  have e34:(34:Int)=(((34:UInt8).toNat:Nat):Int):=rfl
  rw[wb n b e34 (by omega),obs]
  have:=quote_l n s hs s [] (loopFuel-s.length-1) (b++[34]) 0 rfl rfl (by simp;omega)
  rw[←lfu hs] at this
  have e:(((List.length (List.map (fun y2=>(((UInt8.toNat y2):Nat):Int)) s)):Nat):Int)=(s.length:Int):=by simp
  rw[e]
  show obind (label_quote_l2 (n+1) loopFuel (b++[34],_)) _=_
  rw[this,obs,selim_inl]
  have:=qt_len s
  rw[wb n _ e34 (by simp;omega),obs]
def labT (x:Lab):List UInt8:=x.1++[61,34]++qt x.2++[34]
def bodyL:UInt8→List Lab→List UInt8
  | _,[]=>[]
  | c,x::r=>c::(labT x++bodyL 44 r)
def textL (l:List Lab):List UInt8:=bodyL 123 l++[125]
theorem chkL_len:∀(l:List Lab) (p:Option (List UInt8)),chkL p l→∀x∈l,x.1.length≤64∧x.2.length≤128
  | [],_,_,x,hx=>by cases hx
  | y::l,p,h,x,hx=>by
    rcases List.mem_cons.1 hx with rfl | hx
    · exact ⟨h.1.len,h.2.1⟩
    · exact chkL_len l _ h.2.2.2 x hx
theorem labT_len {x:Lab} (h:x.1.length≤64∧x.2.length≤128):(labT x).length≤400:=by
  have:=qt_len x.2
  unfold labT
  simp;omega
theorem bodyL_len:∀(l:List Lab) (c:UInt8),(∀x∈l,x.1.length≤64∧x.2.length≤128)→(bodyL c l).length≤401*l.length
  | [],_,_=>by simp[bodyL]
  | x::l,c,h=>by
    have h1:=labT_len (h x List.mem_cons_self)
    have h2:=bodyL_len l 44 fun y hy=>h y (List.mem_cons_of_mem _ hy)
    unfold bodyL
    simp;omega
theorem textL_len {l:List Lab} (h:LabOk l):(textL l).length≤10000:=by
  have h1:=bodyL_len l 123 (chkL_len l none h.c)
  have h2:=h.n1
  unfold textL
  simp;omega
theorem text_l (n:Nat) (l:List Lab) (hl:l.length≤16) (hx:∀x∈l,x.1.length≤64∧x.2.length≤128):∀(rest pre:List Lab) (f:Nat) (b:List UInt8) (a:UInt8) (i:Int),l=pre++rest→i=pre.length→b.length≤401*pre.length →
    label_Text_l7 (n+2) (f+rest.length+1) (b,((a.toNat:Nat):Int),l,(l.length:Int),i,())=some (.inl (b++bodyL a rest,())):=by
  intro rest
  induction rest with
  | nil =>
    intro pre f b a i h hi hb
    rw[label_Text_l7_eq]
    simp only[tfd,if_neg (idxe h hi rfl)]
    simp[bodyL]
  | cons x rest ih =>
    intro pre f b a i h hi hb
    have hlen:=congrArg List.length h
    simp at hlen
    have hx1:=hx x (by rw[h];simp)
    rw[show f+(x::rest).length+1=(f+rest.length+1)+1 by simp;omega,label_Text_l7_eq]
    simp only[tfd,if_pos (idx h hi rfl)]
    have e61:(61:Int)=(((61:UInt8).toNat:Nat):Int):=rfl
    have e44:(44:Int)=(((44:UInt8).toNat:Nat):Int):=rfl
    rw[at_mid h hi,obs,idxw h hi (by omega),wb (n+1) b rfl (by omega),obs,wst (n+1) _ _ (by simp;omega),obs,wb (n+1) _ e61 (by simp;omega),obs,
      quote_val n _ _ (by omega) (by simp;omega),obs,e44]
    have hq:=qt_len x.2
    rw[ih (pre++[x]) f _ 44 (i+1) (idxl h) (idxs hi) (by simp;omega)]
    simp[bodyL,labT]
theorem label_text (n:Nat) (l:List Lab):label_Text (n+7) l=some (if LabOk l then (textL l,0) else ([],8)):=by
  rw[label_Text_eq,label_check n l,obs]
  by_cases h:LabOk l
  · rw[if_pos h,if_pos h]
    simp only[decide_true,Bool.not_true,tif_ite,Bool.false_eq_true,if_false]
    have h1:=text_l (n+4) l h.n1 (chkL_len l none h.c) l [] (loopFuel-l.length-1) [] 123 0 rfl rfl (by simp)
    rw[←lfu (by have:=h.n1;omega)] at h1
    show obind (label_Text_l7 (n+6) loopFuel ([],(((123:UInt8).toNat:Nat):Int),l,(l.length:Int),0,())) _=_
    rw[h1,obs,selim_inl]
    have h2:=textL_len h
    have e125:(125:Int)=(((125:UInt8).toNat:Nat):Int):=rfl
    unfold textL at h2 ⊢
    simp at h2
    rw[wb (n+5) _ e125 (by simp;omega),obs,strings_Builder_String_eq,obs]
    simp
  · rw[if_neg h,if_neg h]
    rfl
def bodyT:List Lab→List UInt8
  | []=>[]
  | x::r=>labT x++bodyL 44 r
theorem index_some (sub:List UInt8) (hs:sub≠[]):∀(s:List UInt8) (i:Nat),Lib.index s sub=(i:Int)→∃t,s.drop i=sub++t∧i+sub.length≤s.length
  | [],i,h=>by
    unfold Lib.index at h
    have:sub.isEmpty=false:=by cases sub with | nil=>exact absurd rfl hs | cons=>rfl
    rw[this] at h
    simp at h
  | b::l,i,h=>by
    unfold Lib.index at h
    split at h
    · rename_i hp
      have h0:i=0:=by omega
      subst h0
      obtain ⟨t,ht⟩:=List.isPrefixOf_iff_prefix.1 hp
      have hl:=congrArg List.length ht
      simp at hl
      exact ⟨t,ht.symm,by simp;omega⟩
    · split at h
      · omega
      · have hge:=Lib.index_ge l sub
        obtain ⟨j,hj⟩:∃j:Nat,Lib.index l sub=(j:Int):=⟨(Lib.index l sub).toNat,by
          rename_i hne
          have:Lib.index l sub ≠ -1:=by simpa using hne
          omega⟩
        have hi:i=j+1:=by omega
        obtain ⟨t,h1,h2⟩:=index_some sub hs l j hj
        subst hi
        exact ⟨t,by simpa using h1,by simp;omega⟩
theorem index_at {a sub t:List UInt8} {c:UInt8} {r:List UInt8} (hs:sub=c::r) (ha:c ∉ a):Lib.index (a++(sub++t)) sub=(a.length:Int):=by
  refine Lib.index_first (by simp) ?_ fun j hj => ?_
  · unfold Lib.occAt
    rw[List.drop_left]
    exact List.isPrefixOf_iff_prefix.2 ⟨t,rfl⟩
  · cases ho:Lib.occAt (a++(sub++t)) sub j with
    | false=>rfl
    | true =>
      have:=Lib.occAt_head hs ho
      rw[List.getElem?_append_left hj] at this
      exact absurd (List.mem_of_getElem? this) ha
theorem index_no {s sub:List UInt8} {c:UInt8} {r:List UInt8} (hs:sub=c::r) (ha:c ∉ s):Lib.index s sub = -1:=by
  refine Lib.index_none fun j hj => ?_
  cases ho:Lib.occAt s sub j with
  | false=>rfl
  | true=>exact absurd (List.mem_of_getElem? (Lib.occAt_head hs ho)) ha
def cutV (s sep:List UInt8):List UInt8×(List UInt8×Bool) :=
  if 0≤Lib.index s sep then (s.take (Lib.index s sep).toNat,s.drop ((Lib.index s sep).toNat+sep.length),true) else (s,[],false)
theorem cut_val (n:Nat) (s sep:List UInt8) (hs:s.length≤1000000) (hsep:sep≠[]) (hl:sep.length≤100):strings_Cut (n+3) s sep=some (cutV s sep):=by
  rw[strings_Cut_eq,stringslite_Cut_eq,stringslite_Index_eq,gIndex,tfd,if_pos (by omega),obs]
  unfold cutV
  by_cases h:0≤Lib.index s sep
  · obtain ⟨i,hi⟩:∃i:Nat,Lib.index s sep=(i:Int):=⟨(Lib.index s sep).toNat,by omega⟩
    obtain ⟨t,_,h2⟩:=index_some sep hsep s i hi
    rw[if_pos h,hi,w64 (by omega) (by omega)]
    have c1:(decide ((0:Int)≤(i:Int))&&decide ((i:Int)≤((s.length:Nat):Int)))=true:=by simp;omega
    rw[c1]
    have e:Int.toNat ((i:Int)+((sep.length:Nat):Int))=i+sep.length:=by omega
    rw[e]
    simp only[tfd,tft]
    rw[if_pos (by omega),if_pos (by omega),if_pos h2,obs]
    simp
  · rw[if_neg h]
    simp only[tfd]
    rw[if_neg h,obs]
theorem cutV_len (s sep:List UInt8):(cutV s sep).1.length≤s.length∧(cutV s sep).2.1.length≤s.length:=by
  unfold cutV
  split
  · simp;omega
  · simp
theorem cutV_at {a t r:List UInt8} {c:UInt8} (ha:c ∉ a):cutV (a++((c::r)++t)) (c::r)=(a,t,true):=by
  unfold cutV
  rw[index_at rfl ha,if_pos (by omega),Int.toNat_natCast,List.take_left]
  have:(a++((c::r)++t)).drop (a.length+(c::r).length)=t:=by
    rw[←List.append_assoc,←List.length_append,List.drop_left]
  rw[this]
theorem cutV_no {s r:List UInt8} {c:UInt8} (ha:c ∉ s):cutV s (c::r)=(s,[],false):=by
  unfold cutV
  rw[index_no rfl ha,if_neg (by omega)]
def cutP (c:UInt8):List UInt8→List UInt8×Bool
  | []=>([],false)
  | d::r=>if d=c then (r,true) else (d::r,false)
theorem cutp_val (n:Nat) (c:UInt8) (s:List UInt8):strings_CutPrefix (n+3) s [c]=some (cutP c s):=by
  rw[strings_CutPrefix_eq,stringslite_CutPrefix_eq,stringslite_HasPrefix_eq]
  cases s with
  | nil=>rfl
  | cons d r =>
    have c0:(((List.length [c]:Nat)):Int)≤(((d::r).length:Nat):Int):=by simp;omega
    have c1:(decide ((0:Int)≤((List.length [c]:Nat):Int))&&decide (((List.length [c]:Nat):Int)≤(((d::r).length:Nat):Int)))=true:=by
      have:(0:Int)≤(r.length:Int):=by omega
      simp
      omega
    have e1:Int.toNat ((List.length [c]:Nat):Int)=1:=rfl
    rw[c1,e1]
    simp only[tfd,tft]
    rw[if_pos c0,obs]
    by_cases h:d=c
    · subst h
      have q:cutP d (d::r)=(r,true):=by show (if d=d then (r,true) else (d::r,false))=_;rw[if_pos rfl]
      rw[q]
      simp[tif_ite]
    · have q:cutP c (d::r)=(d::r,false):=by show (if d=c then (r,true) else (d::r,false))=_;rw[if_neg h]
      rw[q]
      have:(List.drop 0 (List.take 1 (d::r))==[c])=false:=by simp[h]
      rw[this]
      rfl
theorem cutP_len (c:UInt8) (s:List UInt8):(cutP c s).1.length≤s.length:=by
  cases s with
  | nil=>simp[cutP]
  | cons d r =>
    show (if d=c then (r,true) else (d::r,false)).1.length≤_
    split<;>simp
def unq:List UInt8→Option (List UInt8×List UInt8)
  | []=>none
  | c :: r => if c.toNat = 34 then some ([], r) else if c.toNat = 10 then none else if c.toNat = 92 then
      (match r with
      | []=>none
      | d::r'=>if d.toNat=110 then (unq r').map (fun p=>(10::p.1,p.2)) else if d.toNat=34∨d.toNat=92 then (unq r').map (fun p=>(d::p.1,p.2)) else none)
    else (unq r).map (fun p=>(c::p.1,p.2))
theorem unq_34 {c:UInt8} (r:List UInt8) (h:c.toNat=34):unq (c::r)=some ([],r):=by unfold unq;rw[if_pos h]
theorem unq_10 {c:UInt8} (r:List UInt8) (h:c.toNat=10):unq (c::r)=none:=by unfold unq;rw[if_neg (by omega),if_pos h]
theorem unq_oth {c:UInt8} (r:List UInt8) (h:¬c.toNat=34) (h':¬c.toNat=10) (h'':¬c.toNat=92):unq (c::r)=(unq r).map (fun p=>(c::p.1,p.2)):=by
  conv=>lhs;unfold unq
  rw[if_neg h,if_neg h',if_neg h'']
theorem unq_92n {c:UInt8} (h:c.toNat=92):unq [c]=none:=by
  unfold unq
  rw[if_neg (by omega),if_neg (by omega),if_pos h]
theorem unq_92 {c d:UInt8} (r:List UInt8) (h:c.toNat=92):unq (c::d::r)=if d.toNat=110 then (unq r).map (fun p=>(10::p.1,p.2)) else if d.toNat=34∨d.toNat=92 then (unq r).map (fun p=>(d::p.1,p.2)) else none:=by
  conv=>lhs;unfold unq
  rw[if_neg (by omega),if_neg (by omega),if_pos h]
theorem unq_len:∀(k:Nat) (s:List UInt8),s.length≤k→∀p,unq s=some p→p.1.length≤s.length∧p.2.length≤s.length:=by
  intro k
  induction k with
  | zero =>
    intro s hs p h
    have:s=[]:=List.eq_nil_of_length_eq_zero (by omega)
    subst this
    cases h
  | succ k ih =>
    intro s hs p h
    cases s with
    | nil=>cases h
    | cons c r =>
      simp at hs
      unfold unq at h
      split at h
      · injection h with h;subst h;simp
      split at h
      · cases h
      split at h
      · cases r with
        | nil=>cases h
        | cons d r' =>
          simp at hs
          simp only at h
          split at h
          · obtain ⟨q,hq,rfl⟩:=Option.map_eq_some_iff.1 h
            have:=ih r' (by omega) q hq
            simp;omega
          split at h
          · obtain ⟨q,hq,rfl⟩:=Option.map_eq_some_iff.1 h
            have:=ih r' (by omega) q hq
            simp;omega
          · cases h
      · obtain ⟨q,hq,rfl⟩:=Option.map_eq_some_iff.1 h
        have:=ih r (by omega) q hq
        simp;omega
theorem unq_qt (r:List UInt8):∀v:List UInt8,unq (qt v++34::r)=some (v,r)
  | []=>unq_34 r (by decide)
  | c::v=>by
    rw[qt_cons]
    have ih:=unq_qt r v
    unfold qb
    by_cases h10:c.toNat=10
    · rw[if_pos h10]
      have hc:c=10:=UInt8.toNat_inj.1 h10
      show unq (92::(110::(qt v++34::r)))=_
      rw[unq_92 _ (by decide),if_pos (by decide),ih,hc];rfl
    rw[if_neg h10]
    by_cases h34:c.toNat=34
    · rw[if_pos h34]
      show unq (92::(c::(qt v++34::r)))=_
      rw[unq_92 _ (by decide),if_neg (by omega),if_pos (.inl h34),ih];rfl
    rw[if_neg h34]
    by_cases h92:c.toNat=92
    · rw[if_pos h92]
      show unq (92::(c::(qt v++34::r)))=_
      rw[unq_92 _ (by decide),if_neg (by omega),if_pos (.inr h92),ih];rfl
    · rw[if_neg h92]
      show unq (c::(qt v++34::r))=_
      rw[unq_oth _ h34 h10 h92,ih];rfl
theorem toB_one (b:List Int) (c:UInt8):toB (b++[((c.toNat:Nat):Int)])=toB b++[c]:=by simp[toB]
theorem drop_mid {s pre rest:List UInt8} {c:UInt8} {i:Int} (h:s=pre++c::rest) (hi:i=pre.length):List.drop (Int.toNat (i+1)) (List.take (List.length s) s)=rest:=by
  have e:Int.toNat (i+1)=(pre++[c]).length:=by simp;omega
  rw[List.take_length,e,h,show pre++c::rest=(pre++[c])++rest by simp,List.drop_left]
theorem unquote_l (n:Nat) (s:List UInt8) (hs:s.length≤1000000):∀(k:Nat) (rest pre:List UInt8) (f:Nat) (b:List Int) (i:Int),rest.length≤k→k≤f→s=pre++rest→i=pre.length→b.length≤pre.length →
    ∃z,label_unquote_l3 n (f+1) (s,b,i,())=some z∧(selim (fun _=>some ([],([],false))) (fun z=>some z) z:Option (List UInt8×(List UInt8×Bool)))=some (match unq rest with | some p=>(toB b++p.1,p.2,true) | none=>([],[],false)):=by
  intro k
  induction k with
  | zero =>
    intro rest pre f b i hr hf h hi hb
    have:rest=[]:=List.eq_nil_of_length_eq_zero (by omega)
    subst this
    rw[label_unquote_l3_eq]
    simp only[tfd,if_neg (idxe h hi rfl)]
    exact ⟨_,rfl,rfl⟩
  | succ k ih =>
    intro rest pre f b i hr hf h hi hb
    cases rest with
    | nil =>
      rw[label_unquote_l3_eq]
      simp only[tfd,if_neg (idxe h hi rfl)]
      exact ⟨_,rfl,rfl⟩
    | cons c rest =>
      have hlen:=congrArg List.length h
      simp at hlen hr
      obtain ⟨f,rfl⟩:∃g,f=g+1:=⟨f-1,by omega⟩
      rw[label_unquote_l3_eq]
      simp only[tfd,if_pos (idx h hi rfl)]
      rw[at_mid h hi,obs,idxw h hi (by omega),drop_mid h hi]
      have e1:Int.toNat (i+1)=pre.length+1:=by omega
      by_cases h34:c.toNat=34
      · rw[if_pos (show ((c.toNat:Nat):Int)=34 by omega),unq_34 _ h34,if_pos (by omega),if_pos (by omega)]
        exact ⟨_,rfl,by simp[toB]⟩
      rw[if_neg (show ¬((c.toNat:Nat):Int)=34 by omega)]
      by_cases h10:c.toNat=10
      · rw[if_pos (show ((c.toNat:Nat):Int)=10 by omega),unq_10 _ h10]
        exact ⟨_,rfl,rfl⟩
      rw[if_neg (show ¬((c.toNat:Nat):Int)=10 by omega)]
      by_cases h92:c.toNat=92
      · have q:decide (((c.toNat:Nat):Int)=92)=true:=by simp;omega
        rw[q]
        simp only[Bool.not_true,tif_ite,Bool.false_eq_true,if_false]
        cases rest with
        | nil =>
          have q2:i+1=(s.length:Int):=by simp at hlen;omega
          rw[if_pos q2,unq_92n h92]
          exact ⟨_,rfl,rfl⟩
        | cons d rest =>
          simp at hlen hr
          have q2:¬(i+1=(s.length:Int)):=by omega
          have h':s=(pre++[c])++d::rest:=by rw[h];simp
          have hi':i+1=((pre++[c]).length:Int):=by simp;omega
          rw[unq_92 _ h92,if_neg q2,at_mid h' hi',obs,idxw h' hi' (by omega)]
          have hn:=fun (b':List Int) (hb':b'.length=b.length+1)=>ih rest ((pre++[c])++[d]) f b' (i+1+1) (by omega) (by omega) (by rw[h'];simp) (by simp;omega) (by simp;omega)
          by_cases k110:d.toNat=110
          · rw[if_pos (show ((d.toNat:Nat):Int)=110 by omega),if_pos (by omega)]
            obtain ⟨z,z1,z2⟩:=hn (b++[10]) (by simp)
            refine ⟨z,z1,?_⟩
            rw[z2,if_pos k110]
            cases unq rest with
            | none=>rfl
            | some p=>simp[toB]
          rw[if_neg (show ¬((d.toNat:Nat):Int)=110 by omega)]
          simp only[if_neg k110]
          by_cases k34:d.toNat=34
          · have q3:((d.toNat:Nat):Int)=34:=by omega
            rw[if_pos q3,if_pos q3,obs,if_pos (by omega)]
            obtain ⟨z,z1,z2⟩:=hn (b++[((d.toNat:Nat):Int)]) (by simp)
            refine ⟨z,z1,?_⟩
            rw[z2,if_pos (.inl k34),toB_one]
            cases unq rest with
            | none=>rfl
            | some p=>simp
          rw[if_neg (show ¬((d.toNat:Nat):Int)=34 by omega)]
          by_cases k92:d.toNat=92
          · rw[if_pos (show ((d.toNat:Nat):Int)=92 by omega),obs,if_pos (by omega)]
            obtain ⟨z,z1,z2⟩:=hn (b++[((d.toNat:Nat):Int)]) (by simp)
            refine ⟨z,z1,?_⟩
            rw[z2,if_pos (.inr k92),toB_one]
            cases unq rest with
            | none=>rfl
            | some p=>simp
          · rw[if_neg (show ¬((d.toNat:Nat):Int)=92 by omega),if_neg (fun q=>by rcases q with q | q<;>omega)]
            exact ⟨_,rfl,rfl⟩
      · rw[unq_oth _ h34 h10 h92]
        have q:decide (((c.toNat:Nat):Int)=92)=false:=by simp;omega
        rw[q]
        simp only[Bool.not_false,tif_ite,if_true]
        rw[if_pos (by omega)]
        obtain ⟨z,z1,z2⟩:=ih rest (pre++[c]) f (b++[((c.toNat:Nat):Int)]) (i+1) (by omega) (by omega) (idxl h) (idxs hi) (by simp;omega)
        refine ⟨z,z1,?_⟩
        rw[z2,toB_one]
        cases unq rest with
        | none=>rfl
        | some p=>simp
theorem unquote_val (n:Nat) (s:List UInt8) (hs:s.length≤1000000):label_unquote (n+1) s=some (match unq s with | some p=>(p.1,p.2,true) | none=>([],[],false)):=by
  rw[label_unquote_eq]
  obtain ⟨z,z1,z2⟩:=unquote_l n s hs s.length s [] (loopFuel-1) [] 0 (Nat.le_refl _) (by unfold loopFuel;omega) rfl rfl (by simp)
  rw[show loopFuel-1+1=loopFuel by unfold loopFuel;omega] at z1
  rw[z1,obs]
  refine (Eq.trans ?_ z2).trans ?_
  · cases z<;>rfl
  · cases unq s<;>rfl
theorem NameOk.no {s:List UInt8} (h:NameOk s) {c:UInt8} (hc:¬sgn ((c.toNat:Nat):Int)):c ∉ s:=by
  intro hm
  match s,h with
  | b::r,h=>exact hc (h.2.2 c hm)
theorem chkL_name:∀(l:List Lab) (p:Option (List UInt8)),chkL p l→∀x∈l,NameOk x.1
  | [],_,_,x,hx=>by cases hx
  | y::l,p,h,x,hx=>by
    rcases List.mem_cons.1 hx with rfl | hx
    · exact h.1
    · exact chkL_name l _ h.2.2.2 x hx
theorem parse_tot (n:Nat):∀(k f:Nat) (rest:List UInt8) (ok:Bool) (out:List Lab),17-out.length≤k→out.length≤17→rest.length≤100000 →
    ∃y:List UInt8×(Bool×(List Lab×Unit)),label_Parse_l3 (n+3) (f+k+1) (rest,ok,out,())=some (.inl y):=by
  intro k
  induction k with
  | zero =>
    intro f rest ok out hk ho hr
    rw[label_Parse_l3_eq]
    simp only[tif_ite,decide_eq_true_eq]
    by_cases h1:ok=true
    · rw[if_pos h1]
      by_cases h2:(!(rest==[125]))=true
      · rw[if_pos h2,if_neg (by omega)];exact ⟨_,rfl⟩
      · rw[if_neg h2];exact ⟨_,rfl⟩
    · rw[if_neg h1];exact ⟨_,rfl⟩
  | succ k ih =>
    intro f rest ok out hk ho hr
    rw[show f+(k+1)+1=(f+k+1)+1 by omega,label_Parse_l3_eq]
    simp only[tif_ite,decide_eq_true_eq]
    by_cases h1:ok=true
    · rw[if_pos h1]
      by_cases h2:(!(rest==[125]))=true
      · rw[if_pos h2]
        by_cases h3:((out.length:Nat):Int)≤16
        · rw[if_pos h3]
          have step:∀s:List UInt8,s.length≤100000→∃y:List UInt8×(Bool×(List Lab×Unit)),(obind (strings_Cut (n+3) s [61,34]) fun r1=>obind (label_unquote (n+3) r1.2.1) fun r2 =>
              if (out.length+1)*32≤140737488355328 then (if r1.2.2=true then label_Parse_l3 (n+3) (f+k+1) (r2.2.1,(r2.2.2,((out++((r1.1,r2.1)::[])),()))) else label_Parse_l3 (n+3) (f+k+1) (r2.2.1,(false,((out++((r1.1,r2.1)::[])),())))) else none)=some (.inl y):=by
            intro s hs
            obtain ⟨hc1,hc2⟩:=cutV_len s [61,34]
            rw[cut_val n s _ (by omega) (by simp) (by simp),obs,unquote_val (n+2) _ (by omega),obs,if_pos (by omega)]
            have hu:(match unq (cutV s [61,34]).2.1 with | some p=>(p.1,p.2,true) | none=>(([]:List UInt8),([]:List UInt8),false)).2.1.length≤100000:=by
              cases hq:unq (cutV s [61,34]).2.1 with
              | none=>simp
              | some p=>have:=(unq_len _ _ (Nat.le_refl _) p hq).2;simp;omega
            split
            · exact ih f _ _ _ (by simp;omega) (by simp;omega) hu
            · exact ih f _ _ _ (by simp;omega) (by simp;omega) hu
          by_cases h4:0<((out.length:Nat):Int)
          · rw[if_pos h4,cutp_val n 44 rest,obs]
            by_cases h5:(!(cutP 44 rest).2)=true
            · rw[if_pos h5];exact ⟨_,rfl⟩
            · rw[if_neg h5]
              exact step _ (by have:=cutP_len 44 rest;omega)
          · rw[if_neg h4]
            exact step _ hr
        · rw[if_neg h3];exact ⟨_,rfl⟩
      · rw[if_neg h2];exact ⟨_,rfl⟩
    · rw[if_neg h1];exact ⟨_,rfl⟩
theorem parse_l (n:Nat) (l:List Lab) (hl:l.length≤16) (hx:∀x∈l,NameOk x.1∧x.1.length≤64∧x.2.length≤128):∀(rest pre:List Lab) (f:Nat),l=pre++rest→(pre=[]→rest≠[]) →
    label_Parse_l3 (n+3) (f+rest.length+1) ((if pre=[] then bodyT rest else bodyL 44 rest)++[125],true,pre,())=some (.inl ([125],true,l,())):=by
  intro rest
  induction rest with
  | nil =>
    intro pre f h hp
    have hp':pre≠[]:=fun q=>hp q rfl
    obtain rfl:l=pre:=by simpa using h
    rw[label_Parse_l3_eq,if_neg hp']
    simp[bodyL,tif_ite]
  | cons x rest ih =>
    intro pre f h hp
    have hlen:=congrArg List.length h
    simp at hlen
    obtain ⟨hn,h64,h128⟩:=hx x (by rw[h];simp)
    have h61:(61:UInt8) ∉ x.1:=hn.no (by decide)
    have hb:(bodyL 44 rest).length≤401*rest.length:=bodyL_len rest 44 fun y hy=>(hx y (by rw[h];simp[hy])).2
    have hq:=qt_len x.2
    rw[show f+(x::rest).length+1=(f+rest.length+1)+1 by simp;omega,label_Parse_l3_eq]
    have hnext:=ih (pre++[x]) f (by rw[h];simp) (by simp)
    rw[if_neg (by simp)] at hnext
    have step:(obind (strings_Cut (n+3) (labT x++bodyL 44 rest++[125]) [61,34]) fun r1=>obind (label_unquote (n+3) r1.2.1) fun r2 =>
        if (pre.length+1)*32≤140737488355328 then (if r1.2.2=true then label_Parse_l3 (n+3) (f+rest.length+1) (r2.2.1,(r2.2.2,((pre++((r1.1,r2.1)::[])),()))) else label_Parse_l3 (n+3) (f+rest.length+1) (r2.2.1,(false,((pre++((r1.1,r2.1)::[])),())))) else none)=some (.inl ([125],true,l,())):=by
      have e:labT x++bodyL 44 rest++[125]=x.1++([61,34]++(qt x.2++34::(bodyL 44 rest++[125]))):=by simp[labT]
      rw[cut_val n _ _ (by rw[e];simp;omega) (by simp) (by simp),obs,e,cutV_at h61]
      simp only
      rw[unquote_val (n+2) _ (by simp;omega),obs,unq_qt,if_pos (by omega),if_pos trivial]
      exact hnext
    have hne:∀c:List UInt8,2≤c.length→(!(c==[125]))=true:=by
      intro c hc
      have:(c==[125])=false:=by
        cases hq:(c==[125]) with
        | false=>rfl
        | true=>have:=eq_of_beq hq;subst this;simp at hc
      rw[this];rfl
    simp only[tif_ite,decide_eq_true_eq,if_true]
    by_cases hp0:pre=[]
    · rw[if_pos hp0,if_pos (hne _ (by simp[bodyT,labT];omega)),if_pos (by omega),if_neg (by rw[hp0];simp)]
      exact step
    · have hpl:0<pre.length:=List.length_pos_iff.2 hp0
      rw[if_neg hp0,if_pos (hne _ (by simp[bodyL,labT];omega)),if_pos (by omega),if_pos (by omega),cutp_val n 44,obs]
      have q:cutP 44 (bodyL 44 (x::rest)++[125])=(labT x++bodyL 44 rest++[125],true):=by
        show (if (44:UInt8)=44 then ((labT x++bodyL 44 rest)++[125],true) else (44::((labT x++bodyL 44 rest)++[125]),false))=_
        rw[if_pos rfl]
      rw[q]
      simp only[Bool.not_true,Bool.false_eq_true,if_false]
      exact step
theorem label_parse_tot (n:Nat) (s:List UInt8) (hs:s.length≤100000):∃r:List Lab×Int,label_Parse (n+7) s=some r∧((r.2=0∧LabOk r.1)∨r=([],4)):=by
  rw[label_Parse_eq,cutp_val (n+3) 123 s,obs]
  obtain ⟨y,hy⟩:=parse_tot (n+3) 17 (loopFuel-18) (cutP 123 s).1 (cutP 123 s).2 [] (by simp) (by simp) (by have:=cutP_len 123 s;omega)
  rw[show loopFuel-18+17+1=loopFuel by unfold loopFuel;omega] at hy
  rw[hy,obs,selim_inl,label_check n y.2.2.1,obs]
  simp only[tif_ite]
  by_cases h1:(!y.2.1)=true
  · rw[if_pos h1];exact ⟨_,rfl,.inr rfl⟩
  rw[if_neg h1]
  by_cases h2:(!(y.1==[125]))=true
  · rw[if_pos h2];exact ⟨_,rfl,.inr rfl⟩
  rw[if_neg h2]
  by_cases h3:LabOk y.2.2.1
  · rw[if_pos h3];exact ⟨_,rfl,.inl ⟨rfl,h3⟩⟩
  · rw[if_neg h3];exact ⟨_,rfl,.inr rfl⟩
theorem bodyL_ne {l:List Lab} (h:l≠[]) (c:UInt8):bodyL c l=c::bodyT l:=by
  cases l with
  | nil=>exact absurd rfl h
  | cons x r=>rfl
theorem LabOk.ne {l:List Lab} (h:LabOk l):l≠[]:=by
  intro q;subst q;have:=h.n0;simp at this
theorem label_parse_text (n:Nat) {l:List Lab} (h:LabOk l):label_Parse (n+7) (textL l)=some (l,0):=by
  rw[label_Parse_eq,cutp_val (n+3) 123,obs]
  have q:cutP 123 (textL l)=(bodyT l++[125],true):=by
    unfold textL
    rw[bodyL_ne h.ne]
    show (if (123:UInt8)=123 then (bodyT l++[125],true) else (123::(bodyT l++[125]),false))=_
    rw[if_pos rfl]
  have hp:=parse_l (n+3) l h.n1 (fun x hx=>⟨chkL_name l none h.c x hx,chkL_len l none h.c x hx⟩) l [] (loopFuel-l.length-1) rfl (fun _=>h.ne)
  rw[←lfu (by have:=h.n1;omega),if_pos rfl] at hp
  rw[q]
  show obind (label_Parse_l3 (n+6) loopFuel (bodyT l++[125],true,[],())) _=_
  rw[hp,obs,selim_inl,label_check n l,obs,if_pos h]
  simp[tif_ite]
end Go.Proofs.YtgcaeappeolhjaaDoor

namespace Go.Plim
set_option linter.unusedVariables false
def tz:Nat→Nat→Nat
  | 0,_=>0
  | k+1,x=>if x % 2=1 then 0 else tz k (x / 2)+1
theorem tz_odd (k x:Nat) (h:x % 2=1):tz k x=0:=by cases k<;>simp[tz,h]
theorem tz_spec:∀(k x:Nat),0<x→x<2^k→tz k x<k∧x=2^tz k x*(x / 2^tz k x)∧(x / 2^tz k x) % 2=1:=by
  intro k
  induction k with
  | zero=>intro x h0 h1;simp at h1;omega
  | succ k ih =>
    intro x h0 h1
    by_cases h:x % 2=1
    · rw[tz_odd (k+1) x h]
      simp[h]
    · have e:tz (k+1) x=tz k (x / 2)+1:=by simp[tz,h]
      rw[Nat.pow_succ] at h1
      obtain ⟨a1,a2,a3⟩:=ih (x / 2) (by omega) (by omega)
      rw[e,Nat.pow_succ,Nat.mul_comm (2^tz k (x / 2)) 2,←Nat.div_div_eq_div_mul]
      refine ⟨by omega,?_,a3⟩
      rw[Nat.mul_assoc,←a2]
      omega
def bl:Nat→Nat→Nat
  | 0,_=>0
  | k+1,x=>if x=0 then 0 else bl k (x / 2)+1
theorem bl_zero (k:Nat):bl k 0=0:=by cases k<;>simp[bl]
theorem bl_spec:∀(k x:Nat),x<2^k→x<2^bl k x∧(0<x→0<bl k x∧2^(bl k x-1)≤x)∧bl k x≤k:=by
  intro k
  induction k with
  | zero=>intro x h;simp[bl] at *;omega
  | succ k ih =>
    intro x h
    by_cases h0:x=0
    · subst h0;rw[bl_zero];simp
    · have e:bl (k+1) x=bl k (x / 2)+1:=by simp[bl,h0]
      rw[Nat.pow_succ] at h
      obtain ⟨a1,a2,a3⟩:=ih (x / 2) (by omega)
      rw[e]
      refine ⟨by rw[Nat.pow_succ];omega,fun _=>⟨by omega,?_⟩,by omega⟩
      rw[Nat.add_sub_cancel]
      by_cases h1:x / 2=0
      · rw[h1,bl_zero];simp;omega
      · obtain ⟨b1,b2⟩:=a2 (by omega)
        have:2^bl k (x / 2)=2^(bl k (x / 2)-1)*2:=by rw[←Nat.pow_succ];congr 1;omega
        omega
theorem bl_unique {k x b:Nat} (h:x<2^k) (h0:0<x) (h1:2^b≤x) (h2:x<2^(b+1)):bl k x=b+1:=by
  obtain ⟨a1,a2,_⟩:=bl_spec k x h
  obtain ⟨c1,c2⟩:=a2 h0
  have d1:b<bl k x:=by
    rcases Nat.lt_or_ge b (bl k x) with q | q
    · exact q
    · have:=Nat.pow_le_pow_right (show 0<2 by decide) q;omega
  have d2:bl k x-1<b+1:=by
    rcases Nat.lt_or_ge (bl k x-1) (b+1) with q | q
    · exact q
    · have:=Nat.pow_le_pow_right (show 0<2 by decide) q;omega
  omega
end Go.Plim

namespace Go.Plim
set_option linter.unusedVariables false
def ndF:Nat→Nat→Nat
  | 0,_=>1
  | f+1,u=>if u<10 then 1 else ndF f (u / 10)+1
def ndg (u:Nat):Nat:=ndF 64 u
def dgs:Nat→Nat→List Int
  | _,0=>[]
  | u,k+1=>dgs (u / 10) k++[((48+u % 10:Nat):Int)]
def decI (u:Nat):List Int:=dgs u (ndg u)
def itoI (z:Int):List Int:=if z<0 then 45::decI z.natAbs else decI z.toNat
theorem dgs_len:∀(k u:Nat),(dgs u k).length=k:=by
  intro k
  induction k with
  | zero=>intro u;rfl
  | succ k ih=>intro u;simp[dgs,ih]
theorem dgs_get:∀(k u j:Nat),j<k→(dgs u k)[j]? = some ((48+u / 10^(k-1-j) % 10:Nat):Int):=by
  intro k
  induction k with
  | zero=>intro u j h;omega
  | succ k ih =>
    intro u j h
    simp only[dgs]
    by_cases hj:j<k
    · rw[List.getElem?_append_left (by rw[dgs_len];exact hj),ih _ _ hj,Nat.div_div_eq_div_mul]
      have:k+1-1-j=k-1-j+1:=by omega
      rw[this,Nat.pow_succ,Nat.mul_comm]
    · have:j=k:=by omega
      subst this
      rw[List.getElem?_append_right (by rw[dgs_len];exact Nat.le_refl _),dgs_len]
      simp
theorem dgs_of {l:List Int} {u k:Nat} (hl:l.length=k) (h:∀j,j<k→l[j]? = some ((48+u / 10^(k-1-j) % 10:Nat):Int)):l=dgs u k:=by
  apply List.ext_getElem?
  intro j
  by_cases hj:j<k
  · rw[h j hj,dgs_get k u j hj]
  · rw[List.getElem?_eq_none (by omega),List.getElem?_eq_none (by rw[dgs_len];omega)]
theorem dgs_range:∀(k u:Nat),∀x∈dgs u k,48≤x∧x≤57:=by
  intro k
  induction k with
  | zero=>intro u x hx;cases hx
  | succ k ih =>
    intro u x hx
    simp only[dgs,List.mem_append,List.mem_singleton] at hx
    rcases hx with hx | hx
    · exact ih _ x hx
    · subst hx;omega
theorem ndF_of:∀(d f u:Nat),d<f→(0<d→10^d≤u)→u<10^(d+1)→ndF f u=d+1:=by
  intro d
  induction d with
  | zero =>
    intro f u hf _ h
    obtain ⟨g,rfl⟩:∃g,f=g+1:=⟨f-1,by omega⟩
    simp only[ndF]
    rw[if_pos (by simpa using h)]
  | succ d ih =>
    intro f u hf h1 h2
    obtain ⟨g,rfl⟩:∃g,f=g+1:=⟨f-1,by omega⟩
    have h1:=h1 (by omega)
    have hp:1≤10^d:=Nat.one_le_pow _ _ (by omega)
    have e:10^(d+1)=10*10^d:=by rw[Nat.pow_succ,Nat.mul_comm]
    have e2:10^(d+1+1)=10*10^(d+1):=by rw[Nat.pow_succ,Nat.mul_comm]
    simp only[ndF]
    rw[if_neg (by omega),ih g (u / 10) (by omega) (fun _=>by rw[Nat.le_div_iff_mul_le (by omega)];omega) (by rw[Nat.div_lt_iff_lt_mul (by omega)];omega)]
theorem ndg_of {d u:Nat} (hd:d<64) (h1:0<d→10^d≤u) (h2:u<10^(d+1)):ndg u=d+1:=ndF_of d 64 u hd h1 h2
def lgt (b:Nat):Nat:=b*78913 / 262144
theorem lgt_all:((List.range 65).all fun b=>decide (b=0)||(decide (2^b≤10^(lgt b+1))&&(decide (lgt b=0)||decide (10^(lgt b-1)≤2^(b-1)))))=true:=by decide +kernel
theorem lgt_at {b:Nat} (h:b≤64) (h0:0<b):2^b≤10^(lgt b+1)∧(0<lgt b→10^(lgt b-1)≤2^(b-1)):=by
  have:=List.all_eq_true.1 lgt_all b (List.mem_range.2 (by omega))
  simp only[Bool.or_eq_true,Bool.and_eq_true,decide_eq_true_eq] at this
  rcases this with h1 | ⟨h1,h2⟩
  · omega
  · exact ⟨h1,fun h3=>h2.resolve_left (by omega)⟩
theorem lgt_lt {b:Nat} (h:b≤64):lgt b<20:=by
  unfold lgt;omega
theorem ndg_bl {u:Nat} (h0:0<u) (h:u<18446744073709551616):ndg u=lgt (bl 64 u)+if 10^lgt (bl 64 u)≤u then 1 else 0:=by
  obtain ⟨b1,b2,b3⟩:=bl_spec 64 u h
  obtain ⟨b2,b4⟩:=b2 h0
  obtain ⟨l1,l2⟩:=lgt_at b3 b2
  have l3:=lgt_lt b3
  split
  · rename_i hle
    exact ndg_of (by omega) (fun _=>hle) (by omega)
  · rename_i hle
    have hpos:0<lgt (bl 64 u):=by
      rcases Nat.eq_zero_or_pos (lgt (bl 64 u)) with e | e
      · rw[e] at hle;simp at hle;omega
      · exact e
    have:=l2 hpos
    have e:lgt (bl 64 u)-1+1=lgt (bl 64 u):=by omega
    have:=ndg_of (d:=lgt (bl 64 u)-1) (u:=u) (by omega) (fun _=>by omega) (by rw[e];omega)
    omega
theorem ndg_small {u:Nat} (h:u<10):ndg u=1:=ndg_of (by omega) (fun h=>by omega) (by simpa using h)
theorem ndF_up:∀(f u:Nat),u<10^(f+1)→∀g,f≤g→ndF g u=ndF f u:=by
  intro f
  induction f with
  | zero=>intro u h g _;cases g with
    | zero=>rfl
    | succ g=>simp only[ndF];rw[if_pos (by simpa using h)]
  | succ f ih =>
    intro u h g hg
    obtain ⟨k,rfl⟩:∃k,g=k+1:=⟨g-1,by omega⟩
    simp only[ndF]
    split
    · rfl
    · rw[ih (u / 10) (by rw[Nat.div_lt_iff_lt_mul (by omega)];rw[Nat.pow_succ] at h;exact h) k (by omega)]
theorem ndg_step {u:Nat} (h:10≤u) (hu:u<10^63):ndg u=ndg (u / 10)+1:=by
  unfold ndg
  conv=>lhs;unfold ndF
  rw[if_neg (by omega),ndF_up 63 (u / 10) (Nat.lt_of_le_of_lt (Nat.div_le_self _ _) (Nat.lt_of_lt_of_le hu (Nat.pow_le_pow_right (by omega) (by omega)))) 64 (by omega)]
theorem decI_small {u:Nat} (h:u<10):decI u=[((48+u:Nat):Int)]:=by
  unfold decI;rw[ndg_small h];simp only[dgs,List.nil_append];rw[Nat.mod_eq_of_lt h]
theorem decI_step {u:Nat} (h:10≤u) (hu:u<10^63):decI u=decI (u / 10)++[((48+u % 10:Nat):Int)]:=by
  unfold decI;rw[ndg_step h hu];rfl
theorem ndg_le {u:Nat} (h:u<18446744073709551616):ndg u≤20:=by
  rcases Nat.eq_zero_or_pos u with e | e
  · subst e;decide
  · rw[ndg_bl e h]
    have:=lgt_lt (bl_spec 64 u h).2.2
    split<;>omega
theorem ndg_hi {u:Nat} (h:u<18446744073709551616):u<10^ndg u:=by
  rcases Nat.eq_zero_or_pos u with e | e
  · subst e;exact Nat.pow_pos (by omega)
  · obtain ⟨b1,b2,b3⟩:=bl_spec 64 u h
    obtain ⟨b2,b4⟩:=b2 e
    obtain ⟨l1,l2⟩:=lgt_at b3 b2
    rw[ndg_bl e h]
    split
    · omega
    · rename_i hle;simpa using hle
theorem ndg_pos (u:Nat):0<ndg u:=by
  unfold ndg ndF;split<;>omega
theorem decI_range (u:Nat):∀x∈decI u,48≤x∧x≤57:=dgs_range _ _
end Go.Plim

namespace Go.Plim
set_option linter.unusedVariables false
def ofN (x:Nat):Wd:=(((x / 18446744073709551616:Nat):Int),((x % 18446744073709551616:Nat):Int))
end Go.Plim

namespace Go.Plim
set_option linter.unusedVariables false
theorem bl_shift {k x s:Nat} (h:x<2^k) (hs:2^s≤x):bl k x=s+bl k (x / 2^s):=by
  have hp:=Nat.two_pow_pos s
  have h0:0<x / 2^s:=Nat.div_pos hs hp
  have h1:x / 2^s<2^k:=Nat.lt_of_le_of_lt (Nat.div_le_self _ _) h
  obtain ⟨a1,a2,a3⟩:=bl_spec k (x / 2^s) h1
  obtain ⟨b1,b2⟩:=a2 h0
  obtain ⟨c,hc⟩:∃c,bl k (x / 2^s)=c+1:=⟨bl k (x / 2^s)-1,by omega⟩
  rw[hc] at a1 b2 ⊢
  rw[Nat.add_sub_cancel] at b2
  rw[←Nat.add_assoc]
  refine bl_unique h (by omega) ?_ ?_
  · rw[Nat.pow_add,Nat.mul_comm]
    exact (Nat.le_div_iff_mul_le hp).1 b2
  · rw[Nat.add_assoc,Nat.pow_add,Nat.mul_comm]
    exact (Nat.div_lt_iff_lt_mul hp).1 a1
end Go.Plim

namespace Go.Proofs.YtgcaeappeolhjaaDoor
open Go.Flat Go.Plim
set_option linter.unusedVariables false
set_option linter.unusedSimpArgs false
theorem shrN (x k:Nat) (hk:k≤64):shrI .u64 (x:Int) (k:Int)=((x / 2^k:Nat):Int):=by
  rw[shr_nat _ _ hk];simp
end Go.Proofs.YtgcaeappeolhjaaDoor
namespace Go.Proofs.YtgcaeappeolhjaaDoor
open Go.Flat Go.Plim
set_option linter.unusedVariables false
def lenT:List UInt8 :=
  bs_2753755
theorem len64_tree (n:Nat) (x:Int):math_bits_Len64 (n+1) x =
  tif ((decide ((4294967296:Int)≤x))) (
  tif ((decide ((65536:Int)≤(shrI .u64 x (32:Int))))) (
  tif ((decide ((256:Int)≤(shrI .u64 (shrI .u64 x (32:Int)) (16:Int))))) (
  obind (at? lenT (IntKind.wrap .u8 (shrI .u64 (shrI .u64 (shrI .u64 x (32:Int)) (16:Int)) (8:Int)))) fun r0 =>
  some (IntKind.wrap .i64 ((56:Int)+(IntKind.wrap .i64 (((UInt8.toNat r0):Nat):Int))))) (
  obind (at? lenT (IntKind.wrap .u8 (shrI .u64 (shrI .u64 x (32:Int)) (16:Int)))) fun r1 =>
  some (IntKind.wrap .i64 ((48:Int)+(IntKind.wrap .i64 (((UInt8.toNat r1):Nat):Int)))))) (
  tif ((decide ((256:Int)≤(shrI .u64 x (32:Int))))) (
  obind (at? lenT (IntKind.wrap .u8 (shrI .u64 (shrI .u64 x (32:Int)) (8:Int)))) fun r2 =>
  some (IntKind.wrap .i64 ((40:Int)+(IntKind.wrap .i64 (((UInt8.toNat r2):Nat):Int))))) (
  obind (at? lenT (IntKind.wrap .u8 (shrI .u64 x (32:Int)))) fun r3 =>
  some (IntKind.wrap .i64 ((32:Int)+(IntKind.wrap .i64 (((UInt8.toNat r3):Nat):Int))))))) (
  tif ((decide ((65536:Int)≤x))) (
  tif ((decide ((256:Int)≤(shrI .u64 x (16:Int))))) (
  obind (at? lenT (IntKind.wrap .u8 (shrI .u64 (shrI .u64 x (16:Int)) (8:Int)))) fun r4 =>
  some (IntKind.wrap .i64 ((24:Int)+(IntKind.wrap .i64 (((UInt8.toNat r4):Nat):Int))))) (
  obind (at? lenT (IntKind.wrap .u8 (shrI .u64 x (16:Int)))) fun r5 =>
  some (IntKind.wrap .i64 ((16:Int)+(IntKind.wrap .i64 (((UInt8.toNat r5):Nat):Int)))))) (
  tif ((decide ((256:Int)≤x))) (
  obind (at? lenT (IntKind.wrap .u8 (shrI .u64 x (8:Int)))) fun r6 =>
  some (IntKind.wrap .i64 ((8:Int)+(IntKind.wrap .i64 (((UInt8.toNat r6):Nat):Int))))) (
  obind (at? lenT (IntKind.wrap .u8 x)) fun r7 =>
  some (IntKind.wrap .i64 ((0:Int)+(IntKind.wrap .i64 (((UInt8.toNat r7):Nat):Int))))))):=math_bits_Len64_eq n x
theorem lenT_all:((List.range 256).all fun z=>match lenT[z]? with | some r=>decide (r.toNat=bl 64 z) | none=>false)=true:=by decide +kernel
end Go.Proofs.YtgcaeappeolhjaaDoor
namespace Go.Proofs.YtgcaeappeolhjaaDoor
open Go.Flat Go.Plim
set_option linter.unusedVariables false
set_option linter.unusedSimpArgs false
theorem lenT_at {z:Nat} (h:z<256):∃r,at? lenT (z:Int)=some r∧r.toNat=bl 64 z:=by
  have h1:=List.all_eq_true.1 lenT_all z (List.mem_range.2 h)
  split at h1
  · rename_i r hr
    refine ⟨r,?_,of_decide_eq_true h1⟩
    unfold at?
    rw[decide_eq_true (by omega)]
    exact hr
  · cases h1
theorem len_leaf {x s K:Nat} {I S:Int} (hK:K=2^s) (hI:I=((x / K:Nat):Int)) (hS:S=s) (h2:x / K<256) (h1:K≤x∨s=0) (hx:x<18446744073709551616) (hs:s≤56) :
    (obind (at? lenT (IntKind.wrap .u8 I)) fun r=>some (IntKind.wrap .i64 (S+IntKind.wrap .i64 (((UInt8.toNat r):Nat):Int))))=some ((bl 64 x:Nat):Int):=by
  obtain ⟨r,hr,hb⟩:=lenT_at h2
  have hle:=(bl_spec 64 (x / K) (Nat.lt_of_le_of_lt (Nat.div_le_self _ _) hx)).2.2
  have e:bl 64 x=s+bl 64 (x / K):=by
    rcases h1 with h1 | rfl
    · rw[hK] at h1 ⊢
      exact bl_shift hx h1
    · subst hK;simp
  rw[hI,e]
  generalize x / K=z at *
  rw[wu8 (by omega) (by omega),hr,obs,hb,w64 (x:=((bl 64 z:Nat):Int)) (by omega) (by omega),hS,w64 (by omega) (by omega)]
  congr 1
theorem len64_val (n:Nat) {x:Nat} (h:x<18446744073709551616):math_bits_Len64 (n+1) (x:Int)=some ((bl 64 x:Nat):Int):=by
  have s32:∀z:Nat,shrI .u64 (z:Int) (32:Int)=((z / 4294967296:Nat):Int):=fun z=>shrN z 32 (by decide)
  have s16:∀z:Nat,shrI .u64 (z:Int) (16:Int)=((z / 65536:Nat):Int):=fun z=>shrN z 16 (by decide)
  have s8:∀z:Nat,shrI .u64 (z:Int) (8:Int)=((z / 256:Nat):Int):=fun z=>shrN z 8 (by decide)
  have h':=h
  rw[len64_tree]
  simp only[s32,s16,s8,tfd]
  by_cases c5:4294967296≤x
  · rw[if_pos (by omega)]
    by_cases c4:65536≤x / 4294967296
    · rw[if_pos (by omega)]
      by_cases c3:256≤x / 4294967296 / 65536
      · rw[if_pos (by omega)]
        exact len_leaf (s:=56) (K:=72057594037927936) rfl (by omega) rfl (by omega) (.inl (by omega)) h (by decide)
      · rw[if_neg (by omega)]
        exact len_leaf (s:=48) (K:=281474976710656) rfl (by omega) rfl (by omega) (.inl (by omega)) h (by decide)
    · rw[if_neg (by omega)]
      by_cases c3:256≤x / 4294967296
      · rw[if_pos (by omega)]
        exact len_leaf (s:=40) (K:=1099511627776) rfl (by omega) rfl (by omega) (.inl (by omega)) h (by decide)
      · rw[if_neg (by omega)]
        exact len_leaf (s:=32) (K:=4294967296) rfl (by omega) rfl (by omega) (.inl (by omega)) h (by decide)
  · rw[if_neg (by omega)]
    by_cases c4:65536≤x
    · rw[if_pos (by omega)]
      by_cases c3:256≤x / 65536
      · rw[if_pos (by omega)]
        exact len_leaf (s:=24) (K:=16777216) rfl (by omega) rfl (by omega) (.inl (by omega)) h (by decide)
      · rw[if_neg (by omega)]
        exact len_leaf (s:=16) (K:=65536) rfl (by omega) rfl (by omega) (.inl (by omega)) h (by decide)
    · rw[if_neg (by omega)]
      by_cases c3:256≤x
      · rw[if_pos (by omega)]
        exact len_leaf (s:=8) (K:=256) rfl (by omega) rfl (by omega) (.inl (by omega)) h (by decide)
      · rw[if_neg (by omega)]
        exact len_leaf (s:=0) (K:=1) rfl (by omega) rfl (by omega) (.inr rfl) h (by decide)
theorem sm_all:((List.range 100).all fun x=>decide (at? bs_92989263 ((2*x:Nat):Int)=some (UInt8.ofNat (48+x / 10)))&&decide (at? bs_92989263 ((2*x+1:Nat):Int)=some (UInt8.ofNat (48+x % 10))))=true:=by decide +kernel
theorem wu32 {x:Nat} (h:x<4294967296):IntKind.wrap .u32 (x:Int)=x:=by
  rw[IntKind.wrap_u32];omega
theorem sm_hi {x:Nat} (h:x<100):at? bs_92989263 (IntKind.wrap .u32 ((x:Int)*(2:Int)))=some (UInt8.ofNat (48+x / 10)):=by
  have:=List.all_eq_true.1 sm_all x (List.mem_range.2 h)
  simp only[Bool.and_eq_true,decide_eq_true_eq] at this
  rw[show ((x:Int)*(2:Int))=((2*x:Nat):Int) by omega,wu32 (by omega)]
  exact this.1
theorem sm_lo {x:Nat} (h:x<100):at? bs_92989263 (IntKind.wrap .u32 ((IntKind.wrap .u32 ((x:Int)*(2:Int)))+(1:Int)))=some (UInt8.ofNat (48+x % 10)):=by
  have:=List.all_eq_true.1 sm_all x (List.mem_range.2 h)
  simp only[Bool.and_eq_true,decide_eq_true_eq] at this
  rw[show ((x:Int)*(2:Int))=((2*x:Nat):Int) by omega,wu32 (by omega),show ((2*x:Nat):Int)+1=((2*x+1:Nat):Int) by omega,wu32 (by omega)]
  exact this.2
theorem u8d {d:Nat} (h:d<10):((UInt8.toNat (UInt8.ofNat (48+d)):Nat):Int)=((48+d:Nat):Int):=by
  rw[UInt8.toNat_ofNat',Nat.mod_eq_of_lt (by simp;omega)]
theorem obind_const {α β:Type} {o:Option α} (h:∃y,o=some y) (z:Option β):(obind o fun _=>z)=z:=by
  obtain ⟨y,rfl⟩:=h;rfl
theorem at_tk {X:List Int} {len i:Nat} (h:i<len) (hX:len≤X.length):∃y,at? (List.take len (List.drop 0 X)) (i:Int)=some y:=by
  refine ⟨X[i]'(by omega),?_⟩
  unfold at?
  simp only[Int.natCast_nonneg,decide_true,cond_true,Int.toNat_natCast,List.drop_zero,List.getElem?_take,if_pos h]
  exact List.getElem?_eq_getElem (by omega)
theorem gi_tk {X:List Int} {i:Nat} (h:i<X.length):∃y,X[0+i]? = some y:=⟨X[i],by rw[Nat.zero_add];exact List.getElem?_eq_getElem h⟩
theorem tm100 (a:Nat):Int.tmod (a:Int) (100:Int)=((a % 100:Nat):Int):=by rw[tmod_nn (by omega)];omega
theorem tm10000 (a:Nat):Int.tmod (a:Int) (10000:Int)=((a % 10000:Nat):Int):=by rw[tmod_nn (by omega)];omega
theorem tm8 (a:Nat):Int.tmod (a:Int) (100000000:Int)=((a % 100000000:Nat):Int):=by rw[tmod_nn (by omega)];omega
theorem td100 (a:Nat):Int.tdiv (a:Int) (100:Int)=((a / 100:Nat):Int):=by rw[tdiv_nn (by omega)];omega
theorem td10000 (a:Nat):Int.tdiv (a:Int) (10000:Int)=((a / 10000:Nat):Int):=by rw[tdiv_nn (by omega)];omega
theorem td8 (a:Nat):Int.tdiv (a:Int) (100000000:Int)=((a / 100000000:Nat):Int):=by rw[tdiv_nn (by omega)];omega
theorem sub64 {k c:Nat} {z:Int} (hz:z=(c:Int)) (h:c≤k) (hk:k<1000):IntKind.wrap .i64 ((k:Int)-z)=((k-c:Nat):Int):=by
  subst hz
  rw[w64 (by omega) (by omega)];omega
theorem dig_at (U:Nat) {len k i:Nat} (hk:k≤len) (hi:i<k):U / 10^(len-1-(k-1-i))=U / 10^(len-k) / 10^i:=by
  rw[Nat.div_div_eq_div_mul,←Nat.pow_add]
  congr 2;omega
theorem dig_eq {a b:Nat} (h:a=b):(some ((48+a:Nat):Int))=some ((48+b:Nat):Int):=by rw[h]
theorem fb_l1 (n:Nat) {U len:Nat} (hlen:len≤24) (hU:U<18446744073709551616):∀(m f k:Nat) (L:List Int),k / 8=m→m<f→k≤len→len≤L.length →
    (∀j,k≤j→j<len→L[j]? = some ((48+U / 10^(len-1-j) % 10:Nat):Int)) →
    ∃L',strconv_formatBase10_l1 n f ((L,(0,len)),(((U / 10^(len-k):Nat):Int),((k:Int),())))=some (.inl ((L',(0,len)),(((U / 10^(len-k % 8):Nat):Int),(((k % 8:Nat):Int),())))) ∧
      L'.length=L.length∧∀j,k % 8≤j→j<len→L'[j]? = some ((48+U / 10^(len-1-j) % 10:Nat):Int):=by
  intro m
  induction m with
  | zero =>
    intro f k L hm hf hk hL hfill
    obtain ⟨g,rfl⟩:∃g,f=g+1:=⟨f-1,by omega⟩
    refine ⟨L,?_,rfl,?_⟩
    · rw[strconv_formatBase10_l1_eq]
      simp only[tfd]
      rw[if_neg (by omega),show k % 8=k by omega]
    · rw[show k % 8=k by omega];exact hfill
  | succ m ih =>
    intro f k L hm hf hk hL hfill
    obtain ⟨g,rfl⟩:∃g,f=g+1:=⟨f-1,by omega⟩
    have hk8:8≤k:=by omega
    have hv:U / 10^(len-k)<18446744073709551616:=Nat.lt_of_le_of_lt (Nat.div_le_self _ _) hU
    have hnext:U / 10^(len-(k-8))=U / 10^(len-k) / 100000000:=by
      rw[Nat.div_div_eq_div_mul,show len-(k-8)=len-k+8 by omega,Nat.pow_add]
    have hdig:∀i,i<k→U / 10^(len-1-(k-1-i))=U / 10^(len-k) / 10^i:=fun i hi=>dig_at U hk hi
    have IH:=fun L=>ih g (k-8) L (by omega) (by omega) (by omega)
    rw[hnext] at IH
    generalize hvv:U / 10^(len-k)=v at *
    rw[strconv_formatBase10_l1_eq]
    simp only[tfd]
    rw[if_pos (by omega)]
    have e1:IntKind.wrap .u32 (Int.tmod (v:Int) (100000000:Int))=((v % 100000000:Nat):Int):=by rw[tm8,wu32 (by omega)]
    rw[e1]
    generalize hx:v % 100000000=x
    have hx8:x<100000000:=by omega
    have e2:IntKind.wrap .u32 (Int.tdiv (x:Int) (10000:Int))=((x / 10000:Nat):Int):=by rw[td10000,wu32 (by omega)]
    rw[tm10000,e2]
    generalize hx10:x % 10000=x10
    generalize hx32:x / 10000=x32
    have e3:IntKind.wrap .u32 (Int.tdiv (x10:Int) (100:Int))=((x10 / 100:Nat):Int):=by rw[td100,wu32 (by omega)]
    have e4:IntKind.wrap .u32 (Int.tdiv (x32:Int) (100:Int))=((x32 / 100:Nat):Int):=by rw[td100,wu32 (by omega)]
    rw[e3,e4,tm100,tm100,td8,wu64 (x:=((v / 100000000:Nat):Int)) (by omega) (by omega)]
    have w1:=sub64 (k:=k) (c:=1) (z:=1) rfl (by omega) (by omega)
    have w2:=sub64 (k:=k) (c:=2) (z:=2) rfl (by omega) (by omega)
    have w3:=sub64 (k:=k) (c:=3) (z:=3) rfl (by omega) (by omega)
    have w4:=sub64 (k:=k) (c:=4) (z:=4) rfl (by omega) (by omega)
    have w5:=sub64 (k:=k) (c:=5) (z:=5) rfl (by omega) (by omega)
    have w6:=sub64 (k:=k) (c:=6) (z:=6) rfl (by omega) (by omega)
    have w7:=sub64 (k:=k) (c:=7) (z:=7) rfl (by omega) (by omega)
    have w8:=sub64 (k:=k) (c:=8) (z:=8) rfl (by omega) (by omega)
    simp only[w1,w2,w3,w4,w5,w6,w7,w8,Int.toNat_natCast]
    rw[obind_of (sm_lo (x:=x10 % 100) (by omega)),obind_of (sm_hi (x:=x10 % 100) (by omega))]
    rw[obind_const (at_tk (by omega) (by first | omega | (simp only[List.length_set];omega))),obind_const (gi_tk (by first | omega | (simp only[List.length_set];omega)))]
    rw[obind_const (at_tk (by omega) (by first | omega | (simp only[List.length_set];omega))),obind_const (gi_tk (by first | omega | (simp only[List.length_set];omega)))]
    rw[obind_of (sm_lo (x:=x10 / 100) (by omega)),obind_of (sm_hi (x:=x10 / 100) (by omega))]
    rw[obind_const (at_tk (by omega) (by first | omega | (simp only[List.length_set];omega))),obind_const (gi_tk (by first | omega | (simp only[List.length_set];omega)))]
    rw[obind_const (at_tk (by omega) (by first | omega | (simp only[List.length_set];omega))),obind_const (gi_tk (by first | omega | (simp only[List.length_set];omega)))]
    rw[obind_of (sm_lo (x:=x32 % 100) (by omega)),obind_of (sm_hi (x:=x32 % 100) (by omega))]
    rw[obind_const (at_tk (by omega) (by first | omega | (simp only[List.length_set];omega))),obind_const (gi_tk (by first | omega | (simp only[List.length_set];omega)))]
    rw[obind_const (at_tk (by omega) (by first | omega | (simp only[List.length_set];omega))),obind_const (gi_tk (by first | omega | (simp only[List.length_set];omega)))]
    rw[obind_of (sm_lo (x:=x32 / 100) (by omega)),obind_of (sm_hi (x:=x32 / 100) (by omega))]
    rw[obind_const (at_tk (by omega) (by first | omega | (simp only[List.length_set];omega))),obind_const (gi_tk (by first | omega | (simp only[List.length_set];omega)))]
    rw[obind_const (at_tk (by omega) (by first | omega | (simp only[List.length_set];omega))),obind_const (gi_tk (by first | omega | (simp only[List.length_set];omega)))]
    simp only[Nat.zero_add]
    rw[u8d (d:=x10 % 100 % 10) (by omega),u8d (d:=x10 % 100 / 10) (by omega),u8d (d:=x10 / 100 % 10) (by omega),u8d (d:=x10 / 100 / 10) (by omega),u8d (d:=x32 % 100 % 10) (by omega),u8d (d:=x32 % 100 / 10) (by omega),u8d (d:=x32 / 100 % 10) (by omega),u8d (d:=x32 / 100 / 10) (by omega)]
    obtain ⟨L',h1,h2,h3⟩:=IH ((((((((L.set (k-1) ((48+x10 % 100 % 10:Nat):Int)).set (k-2) ((48+x10 % 100 / 10:Nat):Int)).set (k-3) ((48+x10 / 100 % 10:Nat):Int)).set (k-4) ((48+x10 / 100 / 10:Nat):Int)).set (k-5) ((48+x32 % 100 % 10:Nat):Int)).set (k-6) ((48+x32 % 100 / 10:Nat):Int)).set (k-7) ((48+x32 / 100 % 10:Nat):Int)).set (k-8) ((48+x32 / 100 / 10:Nat):Int)) (by simp only[List.length_set];exact hL) (fun j hj hj2=>by
      by_cases hjk:k≤j
      · repeat rw[List.getElem?_set_ne (by omega)]
        exact hfill j hjk hj2
      · have hc:j=k-1∨j=k-2∨j=k-3∨j=k-4∨j=k-5∨j=k-6∨j=k-7∨j=k-8:=by omega
        rcases hc with hc | hc | hc | hc | hc | hc | hc | hc
        · rw[hc,show U / 10^(len-1-(k-1))=v / 10^0 by have:=hdig 0 (by omega);rwa [show k-1-0=k-1 by omega] at this,List.getElem?_set_ne (by omega),List.getElem?_set_ne (by omega),List.getElem?_set_ne (by omega),List.getElem?_set_ne (by omega),List.getElem?_set_ne (by omega),List.getElem?_set_ne (by omega),List.getElem?_set_ne (by omega),List.getElem?_set_self (by first | omega | (simp only[List.length_set];omega))]
          congr 2;simp only[Nat.reducePow];omega
        · rw[hc,show U / 10^(len-1-(k-2))=v / 10^1 by have:=hdig 1 (by omega);rwa [show k-1-1=k-2 by omega] at this,List.getElem?_set_ne (by omega),List.getElem?_set_ne (by omega),List.getElem?_set_ne (by omega),List.getElem?_set_ne (by omega),List.getElem?_set_ne (by omega),List.getElem?_set_ne (by omega),List.getElem?_set_self (by first | omega | (simp only[List.length_set];omega))]
          congr 2;simp only[Nat.reducePow];omega
        · rw[hc,show U / 10^(len-1-(k-3))=v / 10^2 by have:=hdig 2 (by omega);rwa [show k-1-2=k-3 by omega] at this,List.getElem?_set_ne (by omega),List.getElem?_set_ne (by omega),List.getElem?_set_ne (by omega),List.getElem?_set_ne (by omega),List.getElem?_set_ne (by omega),List.getElem?_set_self (by first | omega | (simp only[List.length_set];omega))]
          congr 2;simp only[Nat.reducePow];omega
        · rw[hc,show U / 10^(len-1-(k-4))=v / 10^3 by have:=hdig 3 (by omega);rwa [show k-1-3=k-4 by omega] at this,List.getElem?_set_ne (by omega),List.getElem?_set_ne (by omega),List.getElem?_set_ne (by omega),List.getElem?_set_ne (by omega),List.getElem?_set_self (by first | omega | (simp only[List.length_set];omega))]
          congr 2;simp only[Nat.reducePow];omega
        · rw[hc,show U / 10^(len-1-(k-5))=v / 10^4 by have:=hdig 4 (by omega);rwa [show k-1-4=k-5 by omega] at this,List.getElem?_set_ne (by omega),List.getElem?_set_ne (by omega),List.getElem?_set_ne (by omega),List.getElem?_set_self (by first | omega | (simp only[List.length_set];omega))]
          congr 2;simp only[Nat.reducePow];omega
        · rw[hc,show U / 10^(len-1-(k-6))=v / 10^5 by have:=hdig 5 (by omega);rwa [show k-1-5=k-6 by omega] at this,List.getElem?_set_ne (by omega),List.getElem?_set_ne (by omega),List.getElem?_set_self (by first | omega | (simp only[List.length_set];omega))]
          congr 2;simp only[Nat.reducePow];omega
        · rw[hc,show U / 10^(len-1-(k-7))=v / 10^6 by have:=hdig 6 (by omega);rwa [show k-1-6=k-7 by omega] at this,List.getElem?_set_ne (by omega),List.getElem?_set_self (by first | omega | (simp only[List.length_set];omega))]
          congr 2;simp only[Nat.reducePow];omega
        · rw[hc,show U / 10^(len-1-(k-8))=v / 10^7 by have:=hdig 7 (by omega);rwa [show k-1-7=k-8 by omega] at this,List.getElem?_set_self (by first | omega | (simp only[List.length_set];omega))]
          congr 2;simp only[Nat.reducePow];omega)
    refine ⟨L',?_,by rw[h2];simp only[List.length_set],?_⟩
    · rw[show k % 8=(k-8) % 8 by omega];exact h1
    · rw[show k % 8=(k-8) % 8 by omega];exact h3
theorem shr64 (v k:Nat) (hk:k≤64):shrI .i64 (v:Int) (k:Int)=((v / 2^k:Nat):Int):=shrN v k hk
theorem pow10_at {t:Nat} (h:t<20):at? ((1:Int)::((10:Int)::((100:Int)::((1000:Int)::((10000:Int)::((100000:Int)::((1000000:Int)::((10000000:Int)::((100000000:Int)::((1000000000:Int)::((10000000000:Int)::((100000000000:Int)::((1000000000000:Int)::((10000000000000:Int)::((100000000000000:Int)::((1000000000000000:Int)::((10000000000000000:Int)::((100000000000000000:Int)::((1000000000000000000:Int)::((10000000000000000000:Int)::[])))))))))))))))))))) (t:Int)=some ((10^t:Nat):Int):=by
  have:=List.all_eq_true.1 (show ((List.range 20).all fun t=>decide (at? ((1:Int)::((10:Int)::((100:Int)::((1000:Int)::((10000:Int)::((100000:Int)::((1000000:Int)::((10000000:Int)::((100000000:Int)::((1000000000:Int)::((10000000000:Int)::((100000000000:Int)::((1000000000000:Int)::((10000000000000:Int)::((100000000000000:Int)::((1000000000000000:Int)::((10000000000000000:Int)::((100000000000000000:Int)::((1000000000000000000:Int)::((10000000000000000000:Int)::[])))))))))))))))))))) (t:Int)=some ((10^t:Nat):Int)))=true by decide +kernel) t (List.mem_range.2 h)
  exact of_decide_eq_true this
theorem numDigits_val (n:Nat) {u:Nat} (h0:0<u) (h:u<18446744073709551616):strconv_numDigits (n+2) (u:Int)=some ((ndg u:Nat):Int):=by
  have hb:=(bl_spec 64 u h).2.2
  have hl:=lgt_lt hb
  rw[strconv_numDigits_eq,len64_val n h,obs,strconv_log10Pow2_eq,obs]
  have e:shrI .i64 (IntKind.wrap .i64 (((bl 64 u:Nat):Int)*(78913:Int))) (18:Int)=((lgt (bl 64 u):Nat):Int):=by
    rw[show ((bl 64 u:Nat):Int)*(78913:Int)=((bl 64 u*78913:Nat):Int) by omega,w64 (by omega) (by omega),show (18:Int)=((18:Nat):Int) from rfl,shr64 _ _ (by omega)]
    rfl
  rw[e,pow10_at hl,obs,strconv_bool2_int_eq,tfd,ndg_bl h0 h]
  by_cases hle:10^lgt (bl 64 u)≤u
  · rw[if_pos (by exact_mod_cast hle),if_pos hle,obs,w64 (by omega) (by omega)];rfl
  · rw[if_neg (fun k=>hle (by exact_mod_cast k)),if_neg hle,obs,w64 (by omega) (by omega)];rfl
theorem small_all (n:Nat):((List.range 100).all fun x=>match strconv_small (n+1) (x:Int) with | some r=>decide (r=toB (decI x)) | none=>false)=true:=by kernel_rfl
theorem small_val (n:Nat) {x:Nat} (h:x<100):strconv_small (n+1) (x:Int)=some (toB (decI x)):=by
  have:=List.all_eq_true.1 (small_all n) x (List.mem_range.2 h)
  cases hs:strconv_small (n+1) (x:Int) with
  | none=>simp only[hs] at this;cases this
  | some r=>simp only[hs,decide_eq_true_eq] at this;rw[this]
theorem at_tk0 {X:List Int} {len:Nat} (h:0<len) (hX:len≤X.length):∃y,at? (List.take len (List.drop 0 X)) (0:Int)=some y:=at_tk (i:=0) h hX
theorem last_dig {v:Nat} (h:v<10):IntKind.wrap .u8 (IntKind.wrap .u32 ((48:Int)+(v:Int)))=((48+v:Nat):Int):=by
  rw[show (48:Int)+(v:Int)=((48+v:Nat):Int) by omega,wu32 (by omega),wu8 (by omega) (by omega)]
theorem fill_take {U len:Nat} {L:List Int} (hL:len≤L.length) (h:∀j,j<len→L[j]? = some ((48+U / 10^(len-1-j) % 10:Nat):Int)):L.take len=dgs U len:=by
  refine dgs_of (by rw[List.length_take];omega) fun j hj => ?_
  rw[List.getElem?_take,if_pos hj];exact h j hj
theorem fb_val (n:Nat) {u len:Nat} (hu:u<18446744073709551616) (hlen:len≤20) (hd:u<10^len) (L0:List Int) (hL0:L0.length=24) :
    ∃L,strconv_formatBase10 (n+1) (L0,(0,len)) (u:Int)=some (L,(0,len))∧L.length=24∧L.take len=dgs u len:=by
  obtain ⟨L,h1,h2,h3⟩:=fb_l1 n (U:=u) (len:=len) (by omega) hu (len / 8) loopFuel len L0 rfl (by unfold loopFuel;omega) (Nat.le_refl _) (by omega) (fun j hj hj2=>by omega)
  rw[Nat.sub_self,Nat.pow_zero,Nat.div_one] at h1
  rw[strconv_formatBase10_eq]
  change ∃L,obind (strconv_formatBase10_l1 n loopFuel ((L0,(0,len)),((u:Int),((len:Int),())))) _=_∧_
  rw[h1,obs,selim_inl]
  have hv:u / 10^(len-len % 8)<10^(len % 8):=by
    rw[Nat.div_lt_iff_lt_mul (Nat.pow_pos (by omega)),←Nat.pow_add,show len % 8+(len-len % 8)=len by omega];exact hd
  have hk8:len % 8<8:=Nat.mod_lt _ (by omega)
  have hkl:len % 8≤len:=Nat.mod_le _ _
  have hdig:∀i,i<len % 8→u / 10^(len-1-(len % 8-1-i))=u / 10^(len-len % 8) / 10^i:=fun i hi=>dig_at u hkl hi
  rw[hL0] at h2
  generalize len % 8=k at *
  generalize u / 10^(len-k)=v at *
  have hv7:v<10000000:=Nat.lt_of_lt_of_le hv (Nat.le_trans (Nat.pow_le_pow_right (by omega) (show k≤7 by omega)) (by decide))
  have e1:IntKind.wrap .u32 (v:Int)=(v:Int):=wu32 (by omega)
  have leaf:∀L':List Int,L'.length=24→(∀j,j<len→L'[j]? = some ((48+u / 10^(len-1-j) % 10:Nat):Int))→∃L,some (L',((0:Nat),len))=some (L,(0,len))∧L.length=24∧L.take len=dgs u len :=
    fun L' a b=>⟨L',rfl,a,fill_take (by omega) b⟩
  simp only[tfd,e1]
  by_cases h4:4≤k
  · rw[if_pos (by omega)]
    have e2:IntKind.wrap .u32 (Int.tdiv (v:Int) (10000:Int))=((v / 10000:Nat):Int):=by rw[td10000,wu32 (by omega)]
    rw[tm10000,e2]
    generalize hx10:v % 10000=x10
    generalize hx:v / 10000=x
    have e3:IntKind.wrap .u32 (Int.tdiv (x10:Int) (100:Int))=((x10 / 100:Nat):Int):=by rw[td100,wu32 (by omega)]
    have e4:IntKind.wrap .u32 (Int.tdiv (x:Int) (100:Int))=((x / 100:Nat):Int):=by rw[td100,wu32 (by omega)]
    have w1:=sub64 (k:=k) (c:=1) (z:=1) rfl (by omega) (by omega)
    have w2:=sub64 (k:=k) (c:=2) (z:=2) rfl (by omega) (by omega)
    have w3:=sub64 (k:=k) (c:=3) (z:=3) rfl (by omega) (by omega)
    have w4:=sub64 (k:=k) (c:=4) (z:=4) rfl (by omega) (by omega)
    simp only[e3,e4,tm100,w1,w2,w3,w4,Int.toNat_natCast]
    rw[obind_of (sm_lo (x:=x10 % 100) (by omega)),obind_of (sm_hi (x:=x10 % 100) (by omega))]
    rw[obind_const (at_tk (by omega) (by first | omega | (simp only[List.length_set];omega))),obind_const (gi_tk (by first | omega | (simp only[List.length_set];omega)))]
    rw[obind_const (at_tk (by omega) (by first | omega | (simp only[List.length_set];omega))),obind_const (gi_tk (by first | omega | (simp only[List.length_set];omega)))]
    rw[obind_of (sm_lo (x:=x10 / 100) (by omega)),obind_of (sm_hi (x:=x10 / 100) (by omega))]
    rw[obind_const (at_tk (by omega) (by first | omega | (simp only[List.length_set];omega))),obind_const (gi_tk (by first | omega | (simp only[List.length_set];omega)))]
    rw[obind_const (at_tk (by omega) (by first | omega | (simp only[List.length_set];omega))),obind_const (gi_tk (by first | omega | (simp only[List.length_set];omega)))]
    by_cases h6:6≤k
    · rw[if_pos (by omega)]
      have v1:=sub64 (k:=k-4) (c:=1) (z:=1) rfl (by omega) (by omega)
      have v2:=sub64 (k:=k-4) (c:=2) (z:=2) rfl (by omega) (by omega)
      simp only[v1,v2,Int.toNat_natCast]
      rw[obind_of (sm_lo (x:=x % 100) (by omega)),obind_of (sm_hi (x:=x % 100) (by omega))]
      rw[obind_const (at_tk (by omega) (by first | omega | (simp only[List.length_set];omega))),obind_const (gi_tk (by first | omega | (simp only[List.length_set];omega)))]
      rw[obind_const (at_tk (by omega) (by first | omega | (simp only[List.length_set];omega))),obind_const (gi_tk (by first | omega | (simp only[List.length_set];omega)))]
      by_cases h7:k=7
      · subst h7
        rw[if_pos (by omega)]
        rw[obind_const (at_tk0 (by omega) (by first | omega | (simp only[List.length_set];omega))),obind_const (gi_tk (by first | omega | (simp only[List.length_set];omega)))]
        rw[last_dig (by omega)]
        simp only[Nat.zero_add]
        rw[u8d (d:=x10 % 100 % 10) (by omega),u8d (d:=x10 % 100 / 10) (by omega),u8d (d:=x10 / 100 % 10) (by omega),u8d (d:=x10 / 100 / 10) (by omega),u8d (d:=x % 100 % 10) (by omega),u8d (d:=x % 100 / 10) (by omega)]
        refine leaf _ (by simp only[List.length_set];exact h2) fun j hj => ?_
        by_cases hjk:7≤j
        · repeat rw[List.getElem?_set_ne (by omega)]
          exact h3 j hjk hj
        · have hc:j=6∨j=5∨j=4∨j=3∨j=2∨j=1∨j=0:=by omega
          rcases hc with hc | hc | hc | hc | hc | hc | hc
          · rw[hc,show u / 10^(len-1-(6))=v / 10^0 by have:=hdig 0 (by omega);rwa [show 7-1-0=6 by omega] at this,List.getElem?_set_ne (by omega),List.getElem?_set_ne (by omega),List.getElem?_set_ne (by omega),List.getElem?_set_ne (by omega),List.getElem?_set_ne (by omega),List.getElem?_set_ne (by omega),List.getElem?_set_self (by first | omega | (simp only[List.length_set];omega))]
            exact dig_eq (by simp only[Nat.reducePow];simp only[Nat.reducePow] at hv;omega)
          · rw[hc,show u / 10^(len-1-(5))=v / 10^1 by have:=hdig 1 (by omega);rwa [show 7-1-1=5 by omega] at this,List.getElem?_set_ne (by omega),List.getElem?_set_ne (by omega),List.getElem?_set_ne (by omega),List.getElem?_set_ne (by omega),List.getElem?_set_ne (by omega),List.getElem?_set_self (by first | omega | (simp only[List.length_set];omega))]
            exact dig_eq (by simp only[Nat.reducePow];simp only[Nat.reducePow] at hv;omega)
          · rw[hc,show u / 10^(len-1-(4))=v / 10^2 by have:=hdig 2 (by omega);rwa [show 7-1-2=4 by omega] at this,List.getElem?_set_ne (by omega),List.getElem?_set_ne (by omega),List.getElem?_set_ne (by omega),List.getElem?_set_ne (by omega),List.getElem?_set_self (by first | omega | (simp only[List.length_set];omega))]
            exact dig_eq (by simp only[Nat.reducePow];simp only[Nat.reducePow] at hv;omega)
          · rw[hc,show u / 10^(len-1-(3))=v / 10^3 by have:=hdig 3 (by omega);rwa [show 7-1-3=3 by omega] at this,List.getElem?_set_ne (by omega),List.getElem?_set_ne (by omega),List.getElem?_set_ne (by omega),List.getElem?_set_self (by first | omega | (simp only[List.length_set];omega))]
            exact dig_eq (by simp only[Nat.reducePow];simp only[Nat.reducePow] at hv;omega)
          · rw[hc,show u / 10^(len-1-(2))=v / 10^4 by have:=hdig 4 (by omega);rwa [show 7-1-4=2 by omega] at this,List.getElem?_set_ne (by omega),List.getElem?_set_ne (by omega),List.getElem?_set_self (by first | omega | (simp only[List.length_set];omega))]
            exact dig_eq (by simp only[Nat.reducePow];simp only[Nat.reducePow] at hv;omega)
          · rw[hc,show u / 10^(len-1-(1))=v / 10^5 by have:=hdig 5 (by omega);rwa [show 7-1-5=1 by omega] at this,List.getElem?_set_ne (by omega),List.getElem?_set_self (by first | omega | (simp only[List.length_set];omega))]
            exact dig_eq (by simp only[Nat.reducePow];simp only[Nat.reducePow] at hv;omega)
          · rw[hc,show u / 10^(len-1-(0))=v / 10^6 by have:=hdig 6 (by omega);rwa [show 7-1-6=0 by omega] at this,List.getElem?_set_self (by first | omega | (simp only[List.length_set];omega))]
            exact dig_eq (by simp only[Nat.reducePow];simp only[Nat.reducePow] at hv;omega)
      · have h6':k=6:=by omega
        subst h6'
        rw[if_neg (by omega)]
        simp only[Nat.zero_add]
        rw[u8d (d:=x10 % 100 % 10) (by omega),u8d (d:=x10 % 100 / 10) (by omega),u8d (d:=x10 / 100 % 10) (by omega),u8d (d:=x10 / 100 / 10) (by omega),u8d (d:=x % 100 % 10) (by omega),u8d (d:=x % 100 / 10) (by omega)]
        refine leaf _ (by simp only[List.length_set];exact h2) fun j hj => ?_
        by_cases hjk:6≤j
        · repeat rw[List.getElem?_set_ne (by omega)]
          exact h3 j hjk hj
        · have hc:j=5∨j=4∨j=3∨j=2∨j=1∨j=0:=by omega
          rcases hc with hc | hc | hc | hc | hc | hc
          · rw[hc,show u / 10^(len-1-(5))=v / 10^0 by have:=hdig 0 (by omega);rwa [show 6-1-0=5 by omega] at this,List.getElem?_set_ne (by omega),List.getElem?_set_ne (by omega),List.getElem?_set_ne (by omega),List.getElem?_set_ne (by omega),List.getElem?_set_ne (by omega),List.getElem?_set_self (by first | omega | (simp only[List.length_set];omega))]
            exact dig_eq (by simp only[Nat.reducePow];simp only[Nat.reducePow] at hv;omega)
          · rw[hc,show u / 10^(len-1-(4))=v / 10^1 by have:=hdig 1 (by omega);rwa [show 6-1-1=4 by omega] at this,List.getElem?_set_ne (by omega),List.getElem?_set_ne (by omega),List.getElem?_set_ne (by omega),List.getElem?_set_ne (by omega),List.getElem?_set_self (by first | omega | (simp only[List.length_set];omega))]
            exact dig_eq (by simp only[Nat.reducePow];simp only[Nat.reducePow] at hv;omega)
          · rw[hc,show u / 10^(len-1-(3))=v / 10^2 by have:=hdig 2 (by omega);rwa [show 6-1-2=3 by omega] at this,List.getElem?_set_ne (by omega),List.getElem?_set_ne (by omega),List.getElem?_set_ne (by omega),List.getElem?_set_self (by first | omega | (simp only[List.length_set];omega))]
            exact dig_eq (by simp only[Nat.reducePow];simp only[Nat.reducePow] at hv;omega)
          · rw[hc,show u / 10^(len-1-(2))=v / 10^3 by have:=hdig 3 (by omega);rwa [show 6-1-3=2 by omega] at this,List.getElem?_set_ne (by omega),List.getElem?_set_ne (by omega),List.getElem?_set_self (by first | omega | (simp only[List.length_set];omega))]
            exact dig_eq (by simp only[Nat.reducePow];simp only[Nat.reducePow] at hv;omega)
          · rw[hc,show u / 10^(len-1-(1))=v / 10^4 by have:=hdig 4 (by omega);rwa [show 6-1-4=1 by omega] at this,List.getElem?_set_ne (by omega),List.getElem?_set_self (by first | omega | (simp only[List.length_set];omega))]
            exact dig_eq (by simp only[Nat.reducePow];simp only[Nat.reducePow] at hv;omega)
          · rw[hc,show u / 10^(len-1-(0))=v / 10^5 by have:=hdig 5 (by omega);rwa [show 6-1-5=0 by omega] at this,List.getElem?_set_self (by first | omega | (simp only[List.length_set];omega))]
            exact dig_eq (by simp only[Nat.reducePow];simp only[Nat.reducePow] at hv;omega)
    · rw[if_neg (by omega)]
      by_cases h5:k=5
      · subst h5
        rw[if_pos (by omega)]
        rw[obind_const (at_tk0 (by omega) (by first | omega | (simp only[List.length_set];omega))),obind_const (gi_tk (by first | omega | (simp only[List.length_set];omega)))]
        have hx9:x<10:=by simp only[Nat.reducePow] at hv;omega
        rw[last_dig hx9]
        simp only[Nat.zero_add]
        rw[u8d (d:=x10 % 100 % 10) (by omega),u8d (d:=x10 % 100 / 10) (by omega),u8d (d:=x10 / 100 % 10) (by omega),u8d (d:=x10 / 100 / 10) (by omega)]
        refine leaf _ (by simp only[List.length_set];exact h2) fun j hj => ?_
        by_cases hjk:5≤j
        · repeat rw[List.getElem?_set_ne (by omega)]
          exact h3 j hjk hj
        · have hc:j=4∨j=3∨j=2∨j=1∨j=0:=by omega
          rcases hc with hc | hc | hc | hc | hc
          · rw[hc,show u / 10^(len-1-(4))=v / 10^0 by have:=hdig 0 (by omega);rwa [show 5-1-0=4 by omega] at this,List.getElem?_set_ne (by omega),List.getElem?_set_ne (by omega),List.getElem?_set_ne (by omega),List.getElem?_set_ne (by omega),List.getElem?_set_self (by first | omega | (simp only[List.length_set];omega))]
            exact dig_eq (by simp only[Nat.reducePow];simp only[Nat.reducePow] at hv;omega)
          · rw[hc,show u / 10^(len-1-(3))=v / 10^1 by have:=hdig 1 (by omega);rwa [show 5-1-1=3 by omega] at this,List.getElem?_set_ne (by omega),List.getElem?_set_ne (by omega),List.getElem?_set_ne (by omega),List.getElem?_set_self (by first | omega | (simp only[List.length_set];omega))]
            exact dig_eq (by simp only[Nat.reducePow];simp only[Nat.reducePow] at hv;omega)
          · rw[hc,show u / 10^(len-1-(2))=v / 10^2 by have:=hdig 2 (by omega);rwa [show 5-1-2=2 by omega] at this,List.getElem?_set_ne (by omega),List.getElem?_set_ne (by omega),List.getElem?_set_self (by first | omega | (simp only[List.length_set];omega))]
            exact dig_eq (by simp only[Nat.reducePow];simp only[Nat.reducePow] at hv;omega)
          · rw[hc,show u / 10^(len-1-(1))=v / 10^3 by have:=hdig 3 (by omega);rwa [show 5-1-3=1 by omega] at this,List.getElem?_set_ne (by omega),List.getElem?_set_self (by first | omega | (simp only[List.length_set];omega))]
            exact dig_eq (by simp only[Nat.reducePow];simp only[Nat.reducePow] at hv;omega)
          · rw[hc,show u / 10^(len-1-(0))=v / 10^4 by have:=hdig 4 (by omega);rwa [show 5-1-4=0 by omega] at this,List.getElem?_set_self (by first | omega | (simp only[List.length_set];omega))]
            exact dig_eq (by simp only[Nat.reducePow];simp only[Nat.reducePow] at hv;omega)
      · have h4':k=4:=by omega
        subst h4'
        rw[if_neg (by omega)]
        simp only[Nat.zero_add]
        rw[u8d (d:=x10 % 100 % 10) (by omega),u8d (d:=x10 % 100 / 10) (by omega),u8d (d:=x10 / 100 % 10) (by omega),u8d (d:=x10 / 100 / 10) (by omega)]
        refine leaf _ (by simp only[List.length_set];exact h2) fun j hj => ?_
        by_cases hjk:4≤j
        · repeat rw[List.getElem?_set_ne (by omega)]
          exact h3 j hjk hj
        · have hc:j=3∨j=2∨j=1∨j=0:=by omega
          rcases hc with hc | hc | hc | hc
          · rw[hc,show u / 10^(len-1-(3))=v / 10^0 by have:=hdig 0 (by omega);rwa [show 4-1-0=3 by omega] at this,List.getElem?_set_ne (by omega),List.getElem?_set_ne (by omega),List.getElem?_set_ne (by omega),List.getElem?_set_self (by first | omega | (simp only[List.length_set];omega))]
            exact dig_eq (by simp only[Nat.reducePow];simp only[Nat.reducePow] at hv;omega)
          · rw[hc,show u / 10^(len-1-(2))=v / 10^1 by have:=hdig 1 (by omega);rwa [show 4-1-1=2 by omega] at this,List.getElem?_set_ne (by omega),List.getElem?_set_ne (by omega),List.getElem?_set_self (by first | omega | (simp only[List.length_set];omega))]
            exact dig_eq (by simp only[Nat.reducePow];simp only[Nat.reducePow] at hv;omega)
          · rw[hc,show u / 10^(len-1-(1))=v / 10^2 by have:=hdig 2 (by omega);rwa [show 4-1-2=1 by omega] at this,List.getElem?_set_ne (by omega),List.getElem?_set_self (by first | omega | (simp only[List.length_set];omega))]
            exact dig_eq (by simp only[Nat.reducePow];simp only[Nat.reducePow] at hv;omega)
          · rw[hc,show u / 10^(len-1-(0))=v / 10^3 by have:=hdig 3 (by omega);rwa [show 4-1-3=0 by omega] at this,List.getElem?_set_self (by first | omega | (simp only[List.length_set];omega))]
            exact dig_eq (by simp only[Nat.reducePow];simp only[Nat.reducePow] at hv;omega)
  · rw[if_neg (by omega)]
    have e4:IntKind.wrap .u32 (Int.tdiv (v:Int) (100:Int))=((v / 100:Nat):Int):=by rw[td100,wu32 (by omega)]
    by_cases h2':2≤k
    · rw[if_pos (by omega)]
      have w1:=sub64 (k:=k) (c:=1) (z:=1) rfl (by omega) (by omega)
      have w2:=sub64 (k:=k) (c:=2) (z:=2) rfl (by omega) (by omega)
      simp only[e4,tm100,w1,w2,Int.toNat_natCast]
      rw[obind_of (sm_lo (x:=v % 100) (by omega)),obind_of (sm_hi (x:=v % 100) (by omega))]
      rw[obind_const (at_tk (by omega) (by first | omega | (simp only[List.length_set];omega))),obind_const (gi_tk (by first | omega | (simp only[List.length_set];omega)))]
      rw[obind_const (at_tk (by omega) (by first | omega | (simp only[List.length_set];omega))),obind_const (gi_tk (by first | omega | (simp only[List.length_set];omega)))]
      by_cases h3':k=3
      · subst h3'
        rw[if_pos (by omega)]
        rw[obind_const (at_tk0 (by omega) (by first | omega | (simp only[List.length_set];omega))),obind_const (gi_tk (by first | omega | (simp only[List.length_set];omega)))]
        have hx9:v / 100<10:=by simp only[Nat.reducePow] at hv;omega
        rw[last_dig hx9]
        simp only[Nat.zero_add]
        rw[u8d (d:=v % 100 % 10) (by omega),u8d (d:=v % 100 / 10) (by omega)]
        refine leaf _ (by simp only[List.length_set];exact h2) fun j hj => ?_
        by_cases hjk:3≤j
        · repeat rw[List.getElem?_set_ne (by omega)]
          exact h3 j hjk hj
        · have hc:j=2∨j=1∨j=0:=by omega
          rcases hc with hc | hc | hc
          · rw[hc,show u / 10^(len-1-(2))=v / 10^0 by have:=hdig 0 (by omega);rwa [show 3-1-0=2 by omega] at this,List.getElem?_set_ne (by omega),List.getElem?_set_ne (by omega),List.getElem?_set_self (by first | omega | (simp only[List.length_set];omega))]
            exact dig_eq (by simp only[Nat.reducePow];simp only[Nat.reducePow] at hv;omega)
          · rw[hc,show u / 10^(len-1-(1))=v / 10^1 by have:=hdig 1 (by omega);rwa [show 3-1-1=1 by omega] at this,List.getElem?_set_ne (by omega),List.getElem?_set_self (by first | omega | (simp only[List.length_set];omega))]
            exact dig_eq (by simp only[Nat.reducePow];simp only[Nat.reducePow] at hv;omega)
          · rw[hc,show u / 10^(len-1-(0))=v / 10^2 by have:=hdig 2 (by omega);rwa [show 3-1-2=0 by omega] at this,List.getElem?_set_self (by first | omega | (simp only[List.length_set];omega))]
            exact dig_eq (by simp only[Nat.reducePow];simp only[Nat.reducePow] at hv;omega)
      · have h2'':k=2:=by omega
        subst h2''
        rw[if_neg (by omega)]
        simp only[Nat.zero_add]
        rw[u8d (d:=v % 100 % 10) (by omega),u8d (d:=v % 100 / 10) (by omega)]
        refine leaf _ (by simp only[List.length_set];exact h2) fun j hj => ?_
        by_cases hjk:2≤j
        · repeat rw[List.getElem?_set_ne (by omega)]
          exact h3 j hjk hj
        · have hc:j=1∨j=0:=by omega
          rcases hc with hc | hc
          · rw[hc,show u / 10^(len-1-(1))=v / 10^0 by have:=hdig 0 (by omega);rwa [show 2-1-0=1 by omega] at this,List.getElem?_set_ne (by omega),List.getElem?_set_self (by first | omega | (simp only[List.length_set];omega))]
            exact dig_eq (by simp only[Nat.reducePow];simp only[Nat.reducePow] at hv;omega)
          · rw[hc,show u / 10^(len-1-(0))=v / 10^1 by have:=hdig 1 (by omega);rwa [show 2-1-1=0 by omega] at this,List.getElem?_set_self (by first | omega | (simp only[List.length_set];omega))]
            exact dig_eq (by simp only[Nat.reducePow];simp only[Nat.reducePow] at hv;omega)
    · rw[if_neg (by omega)]
      by_cases h1':k=1
      · subst h1'
        rw[if_pos (by omega)]
        rw[obind_const (at_tk0 (by omega) (by omega)),obind_const (gi_tk (by omega))]
        have hx9:v<10:=by simpa using hv
        rw[last_dig hx9]
        simp only[Nat.zero_add]
        refine leaf _ (by simp only[List.length_set];exact h2) fun j hj => ?_
        by_cases hjk:1≤j
        · rw[List.getElem?_set_ne (by omega)]
          exact h3 j hjk hj
        · have hc:j=0:=by omega
          rcases hc with hc
          · rw[hc,show u / 10^(len-1-(0))=v / 10^0 by have:=hdig 0 (by omega);rwa [show 1-1-0=0 by omega] at this,List.getElem?_set_self (by first | omega | (simp only[List.length_set];omega))]
            exact dig_eq (by simp only[Nat.reducePow];simp only[Nat.reducePow] at hv;omega)
      · rw[if_neg (by omega)]
        exact leaf _ h2 fun j hj=>h3 j (by omega) hj
theorem appendUint_val (n:Nat) {u:Nat} (h:u<18446744073709551616) (dst:List Int) (hd:dst.length≤1000000):strconv_AppendUint_ (n+3) dst (u:Int) (10:Int)=some (dst++decI u):=by
  have hlen:(decI u).length≤20:=by unfold decI;rw[dgs_len];exact ndg_le h
  rw[strconv_AppendUint__eq]
  simp only[tfd]
  rw[if_pos trivial]
  by_cases hs:u<100
  · have e:(List.map (fun y=>((UInt8.toNat y:Nat):Int)) (toB (decI u)))=decI u:=bytesI_toB fun x hx=>by have:=decI_range u x hx;omega
    rw[if_pos (by omega),w64 (by omega) (by omega),small_val (n+1) hs,obs,e,if_pos (by omega)]
  · have hnd:=ndg_le h
    rw[if_neg (by omega),numDigits_val n (by omega) h,obs,tif_ite,if_pos (by simp only[Bool.and_eq_true,decide_eq_true_eq];omega),Int.toNat_natCast,Nat.sub_zero]
    obtain ⟨L,h1,h2,h3⟩:=fb_val (n+1) h hnd (ndg_hi h) (List.replicate 24 (0:Int)) List.length_replicate
    rw[h1,obs,tif_ite,if_pos (by simp[h2]),if_pos h2,tif_ite,if_pos (by simp only[Bool.and_eq_true,decide_eq_true_eq];omega),List.drop_zero,h3,if_pos (by rw[dgs_len];omega)]
    rfl
theorem appendInt_val (n:Nat) {i:Int} (h0 : -9223372036854775808≤i) (h1:i≤9223372036854775807) (dst:List Int) (hd:dst.length≤900000):strconv_AppendInt (n+5) dst i (10:Int)=some (dst++itoI i):=by
  rw[strconv_AppendInt_eq,strconv_AppendInt__eq]
  simp only[tfd]
  unfold itoI
  by_cases hn:i<0
  · rw[if_pos hn,if_pos hn,if_pos (by omega)]
    have e:IntKind.wrap .u64 ((0:Int)-(IntKind.wrap .u64 i))=((i.natAbs:Nat):Int):=by rw[IntKind.wrap_u64,IntKind.wrap_u64];omega
    rw[e,appendUint_val n (by omega) _ (by simp only[List.length_append,List.length_cons,List.length_nil];omega),obs,obs,List.append_assoc];rfl
  · rw[if_neg hn,if_neg hn,wu64 (by omega) (by omega)]
    have e:i=((i.toNat:Nat):Int):=by omega
    rw[show strconv_AppendUint_ (n+3) dst i 10=strconv_AppendUint_ (n+3) dst ((i.toNat:Nat):Int) 10 by rw[←e],appendUint_val n (by omega) _ (by omega),obs,obs]
theorem itoI_len {i:Int} (h0 : -9223372036854775808≤i) (h1:i≤9223372036854775807):(itoI i).length≤21:=by
  unfold itoI decI
  split
  · rw[List.length_cons,dgs_len];have:=ndg_le (u:=i.natAbs) (by omega);omega
  · rw[dgs_len];have:=ndg_le (u:=i.toNat) (by omega);omega
theorem same5_l (n:Nat) (a b:List Lab) (hL:a.length≤9223372036854775807):∀(ra rb pa pb:List Lab) (f:Nat) (ix len:Int),a=pa++ra→b=pb++rb→pa.length=pb.length→ra.length=rb.length→ix=pa.length→len=a.length→ra.length<f →
    r05_Same_l4 n f (a,b,len,ix,())=some (if ra=rb then .inl () else .inr false):=by
  intro ra
  induction ra with
  | nil =>
    intro rb pa pb f ix len ha hb hp hr hi hn hf
    obtain ⟨f,rfl⟩:∃g,f=g+1:=⟨f-1,by simp at hf;omega⟩
    have e:rb=[]:=List.length_eq_zero_iff.1 (by simpa using hr.symm)
    subst e
    rw[r05_Same_l4_eq,decide_eq_false (idxe ha hi hn),tff,if_pos rfl]
  | cons x ra ih =>
    intro rb pa pb f ix len ha hb hp hr hi hn hf
    obtain ⟨f,rfl⟩:∃g,f=g+1:=⟨f-1,by simp at hf;omega⟩
    cases rb with
    | nil=>simp at hr
    | cons y rb =>
      have hlen:=congrArg List.length ha
      simp at hlen
      rw[r05_Same_l4_eq,decide_eq_true (idx ha hi hn),tft,at_mid ha hi,at_mid hb (by omega)]
      simp only[obs,labEq]
      rw[w64 (x:=ix+1) (by omega) (by omega)]
      by_cases h:x=y
      · subst h
        simp only[decide_true,Bool.not_true,tff]
        rw[ih rb (pa++[x]) (pb++[x]) f (ix+1) len (idxl ha) (idxl hb) (by simp;omega) (by simpa using hr) (idxs hi) hn (by simp at hf;omega)]
        simp
      · rw[if_neg (by simp[h])]
        simp only[decide_eq_false h,Bool.not_false,tft]
theorem same5 (n:Nat) (a b:List Lab) (hL:a.length≤9223372036854775807):r05_Same (n+1) a b=some (decide (a=b)):=by
  rw[r05_Same_eq]
  by_cases h:a.length=b.length
  · rw[decide_eq_true (show ((a.length:Nat):Int)=(b.length:Nat) by omega)]
    simp only[Bool.not_true,tff]
    rw[same5_l n a b hL a b [] [] loopFuel 0 _ rfl rfl rfl h rfl rfl (by unfold loopFuel;omega)]
    by_cases h':a=b
    · rw[if_pos h',decide_eq_true h'];rfl
    · rw[if_neg h',decide_eq_false h'];rfl
  · rw[decide_eq_false (show ¬((a.length:Nat):Int)=(b.length:Nat) by omega),decide_eq_false (fun k:a=b=>h (by rw[k]))]
    rfl
theorem sameS_l (n:Nat) (a b:List Lab) (hL:a.length≤9223372036854775807):∀(ra rb pa pb:List Lab) (f:Nat) (ix len:Int),a=pa++ra→b=pb++rb→pa.length=pb.length→ra.length=rb.length→ix=pa.length→len=a.length→ra.length<f →
    sl_Equal_Label_l4 n f (a,b,len,ix,())=some (if ra=rb then .inl () else .inr false):=by
  intro ra
  induction ra with
  | nil =>
    intro rb pa pb f ix len ha hb hp hr hi hn hf
    obtain ⟨f,rfl⟩:∃g,f=g+1:=⟨f-1,by simp at hf;omega⟩
    have e:rb=[]:=List.length_eq_zero_iff.1 (by simpa using hr.symm)
    subst e
    rw[sl_Equal_Label_l4_eq,decide_eq_false (idxe ha hi hn),tff,if_pos rfl]
  | cons x ra ih =>
    intro rb pa pb f ix len ha hb hp hr hi hn hf
    obtain ⟨f,rfl⟩:∃g,f=g+1:=⟨f-1,by simp at hf;omega⟩
    cases rb with
    | nil=>simp at hr
    | cons y rb =>
      have hlen:=congrArg List.length ha
      simp at hlen
      rw[sl_Equal_Label_l4_eq,decide_eq_true (idx ha hi hn),tft,at_mid ha hi,at_mid hb (by omega)]
      simp only[obs,labEq]
      rw[w64 (x:=ix+1) (by omega) (by omega)]
      by_cases h:x=y
      · subst h
        simp only[decide_true,Bool.not_true,tff]
        rw[ih rb (pa++[x]) (pb++[x]) f (ix+1) len (idxl ha) (idxl hb) (by simp;omega) (by simpa using hr) (idxs hi) hn (by simp at hf;omega)]
        simp
      · rw[if_neg (by simp[h])]
        simp only[decide_eq_false h,Bool.not_false,tft]
theorem sameS (n:Nat) (a b:List Lab) (hL:a.length≤9223372036854775807):sl_Equal_Label (n+1) a b=some (decide (a=b)):=by
  rw[sl_Equal_Label_eq]
  by_cases h:a.length=b.length
  · rw[decide_eq_true (show ((a.length:Nat):Int)=(b.length:Nat) by omega)]
    simp only[Bool.not_true,tff]
    rw[sameS_l n a b hL a b [] [] loopFuel 0 _ rfl rfl rfl h rfl rfl (by unfold loopFuel;omega)]
    by_cases h':a=b
    · rw[if_pos h',decide_eq_true h'];rfl
    · rw[if_neg h',decide_eq_false h'];rfl
  · rw[decide_eq_false (show ¬((a.length:Nat):Int)=(b.length:Nat) by omega),decide_eq_false (fun k:a=b=>h (by rw[k]))]
    rfl
abbrev ActT:=Int×(List Lab×(Ev×(Int×(Int×(Int×Int)))))
theorem actEq (a b:ActT):(decide (a.1=b.1)&&(decide (a.2.1=b.2.1)&&(decide (a.2.2.1=b.2.2.1)&&(decide (a.2.2.2.1=b.2.2.2.1)&&(decide (a.2.2.2.2.1=b.2.2.2.2.1)&&(decide (a.2.2.2.2.2.1=b.2.2.2.2.2.1)&&decide (a.2.2.2.2.2.2=b.2.2.2.2.2.2)))))))=decide (a=b):=by
  rw[Bool.eq_iff_iff]
  simp only[Bool.and_eq_true,decide_eq_true_eq,Prod.ext_iff]
theorem script_same (n:Nat) (a b:ActT) (h:a.2.1.length≤1000000):script_Same (n+3) a b=some (decide (a=b)):=by
  rw[script_Same_eq,label_Same_eq,sameS n _ _ (by omega),obs,obs,evEq,←actEq]
  simp only[tif_ite,decide_eq_true_eq]
  by_cases h1:a.1=b.1
  · rw[if_pos h1,decide_eq_true h1]
    by_cases h2:a.2.1=b.2.1
    · rw[if_pos h2,decide_eq_true h2]
      by_cases h3:a.2.2.1=b.2.2.1
      · rw[if_pos h3,decide_eq_true h3]
        by_cases h4:a.2.2.2.1=b.2.2.2.1
        · rw[if_pos h4,decide_eq_true h4]
          by_cases h5:a.2.2.2.2.1=b.2.2.2.2.1
          · rw[if_pos h5,decide_eq_true h5]
            by_cases h6:a.2.2.2.2.2.1=b.2.2.2.2.2.1
            · rw[if_pos h6,decide_eq_true h6];rfl
            · rw[if_neg h6,decide_eq_false h6];rfl
          · rw[if_neg h5,decide_eq_false h5];rfl
        · rw[if_neg h4,decide_eq_false h4];rfl
      · rw[if_neg h3,decide_eq_false h3];rfl
    · rw[if_neg h2,decide_eq_false h2];rfl
  · rw[if_neg h1,decide_eq_false h1];rfl
theorem r29_same (n:Nat) (a b:ActT) (h:a.2.1.length≤1000000):r29_Same (n+2) a b=some (decide (a=b)):=by
  rw[r29_Same_eq,same5 n _ _ (by omega),obs,evEq,←actEq]
  simp only[tif_ite,decide_eq_true_eq]
  by_cases h1:a.1=b.1
  · rw[if_pos h1,decide_eq_true h1]
    by_cases h2:a.2.1=b.2.1
    · rw[if_pos h2,decide_eq_true h2]
      by_cases h3:a.2.2.1=b.2.2.1
      · rw[if_pos h3,decide_eq_true h3]
        by_cases h4:a.2.2.2.1=b.2.2.2.1
        · rw[if_pos h4,decide_eq_true h4]
          by_cases h5:a.2.2.2.2.1=b.2.2.2.2.1
          · rw[if_pos h5,decide_eq_true h5]
            by_cases h6:a.2.2.2.2.2.1=b.2.2.2.2.2.1
            · rw[if_pos h6,decide_eq_true h6];rfl
            · rw[if_neg h6,decide_eq_false h6];rfl
          · rw[if_neg h5,decide_eq_false h5];rfl
        · rw[if_neg h4,decide_eq_false h4];rfl
      · rw[if_neg h3,decide_eq_false h3];rfl
    · rw[if_neg h2,decide_eq_false h2];rfl
  · rw[if_neg h1,decide_eq_false h1];rfl
def wordW (B s:List UInt8):List UInt8:=if B=[] then s else B++32::s
theorem wordW_len (B s:List UInt8):(wordW B s).length≤B.length+s.length+1:=by
  unfold wordW
  split
  · omega
  · simp;omega
theorem word_val (n:Nat) (B s:List UInt8) (x:Bool×ActT) (hB:B.length≤1000000) (hs:s.length≤1000000):script_writer_word (n+1) (bytesI B,x) s=some (bytesI (wordW B s),x):=by
  rw[script_writer_word_eq]
  have hb:(bytesI B).length=B.length:=bytesI_length B
  have hs':(List.map (fun y1=>(((UInt8.toNat y1):Nat):Int)) s)=bytesI s:=rfl
  have hbs:(bytesI s).length=s.length:=bytesI_length s
  simp only[tfd]
  rw[hs']
  unfold wordW
  by_cases h:B=[]
  · subst h
    rw[if_neg (by simp[bytesI]),if_pos (by rw[hbs];simp[bytesI];omega),if_pos rfl]
    simp[bytesI]
  · have hl:0<B.length:=List.length_pos_iff.2 h
    rw[if_pos (by rw[hb];omega),if_pos (by rw[hb];omega),if_pos (by rw[List.length_append,hb,hbs];simp;omega),if_neg h]
    simp[bytesI]
def nt (i:Int):List UInt8:=toB (itoI i)
theorem nt_len {i:Int} (h:I64 i):(nt i).length≤21:=by
  have:=itoI_len h.1 h.2
  unfold nt
  rw[toB_length];exact this
def numsW (B:List UInt8) (l:List Int):List UInt8:=l.foldl (fun B i=>wordW B (nt i)) B
theorem numsW_cons (B:List UInt8) (i:Int) (l:List Int):numsW B (i::l)=numsW (wordW B (nt i)) l:=rfl
theorem nums_l (n:Nat) (x:ActT) (l:List Int) (hl:l.length≤10) (hw:∀i∈l,I64 i):∀(rest pre:List Int) (f:Nat) (B:List UInt8) (bad:Bool) (j:Int),l=pre++rest→j=pre.length→B.length+22*rest.length≤500000 →
    script_writer_nums_l1 (n+5) (f+rest.length+1) ((bytesI B,bad,x),l,(l.length:Int),j,())=some (.inl ((bytesI (numsW B rest),bad||rest.any (fun i=>decide (i<0)),x),())):=by
  intro rest
  induction rest with
  | nil =>
    intro pre f B bad j h hj hB
    rw[script_writer_nums_l1_eq]
    simp only[tfd,if_neg (idxe h hj rfl)]
    simp[numsW]
  | cons i rest ih =>
    intro pre f B bad j h hj hB
    have hlen:=congrArg List.length h
    simp at hlen hB
    have hi:=hw i (by rw[h];simp)
    have hnl:=nt_len hi
    rw[show f+(i::rest).length+1=(f+rest.length+1)+1 by simp;omega,script_writer_nums_l1_eq]
    simp only[tfd,if_pos (idx h hj rfl)]
    rw[at_mid h hj,obs,idxw h hj (by omega),numsW_cons]
    have e:(List.map (fun y2=>(UInt8.ofNat (Int.toNat y2))) ([]++itoI i))=nt i:=rfl
    have hwl:=wordW_len B (nt i)
    cases bad with
    | true =>
      simp only[tft]
      rw[appendInt_val n hi.1 hi.2 [] (by simp),obs,e,word_val (n+4) B (nt i) (true,x) (by omega) (by omega),obs,ih (pre++[i]) f _ true (j+1) (idxl h) (idxs hj) (by omega)]
      simp
    | false =>
      simp only[tff]
      rw[appendInt_val n hi.1 hi.2 [] (by simp),obs,e,word_val (n+4) B (nt i) (decide (i<0),x) (by omega) (by omega),obs,ih (pre++[i]) f _ (decide (i<0)) (j+1) (idxl h) (idxs hj) (by omega)]
      simp
theorem nums_val (n:Nat) (x:ActT) (l:List Int) (hl:l.length≤10) (hw:∀i∈l,I64 i) (B:List UInt8) (bad:Bool) (hB:B.length≤400000) :
    script_writer_nums (n+6) (bytesI B,bad,x) l=some (bytesI (numsW B l),bad||l.any (fun i=>decide (i<0)),x):=by
  rw[script_writer_nums_eq]
  have:=nums_l n x l hl hw l [] (loopFuel-l.length-1) B bad 0 rfl rfl (by omega)
  rw[←lfu (by omega)] at this
  rw[this,obs,selim_inl]
structure ActW (a:ActT):Prop where
  l:a.2.1.length≤1000000
  e:EvW a.2.2.1
  t:I64 a.2.2.2.1
  fa:I64 a.2.2.2.2.1
  fb:I64 a.2.2.2.2.2.1
  fn:I64 a.2.2.2.2.2.2
def told (a:ActT):ActT :=
  if a.1=1 then (1,a.2.1,(if a.2.2.1.2.2.2=true then (a.2.2.1.1,0,0,true) else a.2.2.1),0,0,0,0)
  else if a.1=5 then (5,a.2.1,e0,a.2.2.2.1,a.2.2.2.2.1,a.2.2.2.2.2.1,0)
  else if a.1=6 then (6,[],e0,a.2.2.2.1,a.2.2.2.2.1,a.2.2.2.2.2.1,0)
  else if a.1=2∨a.1=8∨a.1=9 then (a.1,[],e0,0,0,0,a.2.2.2.2.2.2)
  else (a.1,[],e0,0,0,0,0)
def wTick:List UInt8:=[116,105,99,107]
def wArm:List UInt8:=[97,114,109]
def wLoad:List UInt8:=[108,111,97,100]
def wSweep:List UInt8:=[115,119,101,101,112]
def wFlush:List UInt8:=[102,108,117,115,104]
def wDump:List UInt8:=[100,117,109,112]
def wWrite:List UInt8:=[119,114,105,116,101]
def wStale:List UInt8:=[115,116,97,108,101]
def wAsk:List UInt8:=[97,115,107]
def wTotal:List UInt8:=[116,111,116,97,108]
def okK (a:ActT):Prop :=
  if a.1=1 then (0≤a.2.2.1.1∧(a.2.2.1.2.2.2=true∨0≤a.2.2.1.2.2.1))∧LabOk a.2.1
  else if a.1=5 then (0≤a.2.2.2.1∧0≤a.2.2.2.2.1∧0≤a.2.2.2.2.2.1)∧LabOk a.2.1
  else if a.1=6 then 0≤a.2.2.2.1∧0≤a.2.2.2.2.1∧0≤a.2.2.2.2.2.1
  else if a.1=2∨a.1=8∨a.1=9 then 0≤a.2.2.2.2.2.2
  else a.1=3∨a.1=4∨a.1=7
def txtA (a:ActT):List UInt8 :=
  if a.1=1 then (if a.2.2.1.2.2.2=true then wStale++32::nt a.2.2.1.1 else wWrite++32::(toB (decI a.2.2.1.2.1.toNat)++32::(nt a.2.2.1.1++32::nt a.2.2.1.2.2.1)))++32::textL a.2.1
  else if a.1=5 then wAsk++32::(nt a.2.2.2.1++32::(nt a.2.2.2.2.1++32::(nt a.2.2.2.2.2.1++32::textL a.2.1)))
  else if a.1=6 then wTotal++32::(nt a.2.2.2.1++32::(nt a.2.2.2.2.1++32::nt a.2.2.2.2.2.1))
  else if a.1=2 then wTick++32::nt a.2.2.2.2.2.2
  else if a.1=8 then wArm++32::nt a.2.2.2.2.2.2
  else if a.1=9 then wLoad++32::nt a.2.2.2.2.2.2
  else if a.1=3 then wSweep
  else if a.1=4 then wFlush
  else if a.1=7 then wDump
  else []
def good (a:ActT):Prop:=okK a∧told a=a∧(txtA a).length≤4096
noncomputable instance (a:ActT):Decidable (good a):=Classical.propDecidable _
theorem appendU_val (n:Nat) {v:Int} (h0:0≤v) (h1:v≤18446744073709551615):strconv_AppendUint (n+4) [] v 10=some (decI v.toNat):=by
  have e:v=((v.toNat:Nat):Int):=by omega
  have:=appendUint_val n (u:=v.toNat) (by omega) [] (by simp)
  rw[←e] at this
  rw[strconv_AppendUint_eq,this,obs]
  simp
theorem dec_len {v:Int} (h0:0≤v) (h1:v≤18446744073709551615):(toB (decI v.toNat)).length≤20:=by
  unfold decI
  rw[toB_length,dgs_len]
  exact ndg_le (by omega)
noncomputable def labW (B:List UInt8) (l:List Lab):List UInt8:=wordW B (if LabOk l then textL l else [])
theorem labels_val (n:Nat) (B:List UInt8) (bad:Bool) (k:Int) (ls l:List Lab) (r:Ev×(Int×(Int×(Int×Int)))) (hB:B.length≤500000) :
    script_writer_labels (n+8) (bytesI B,bad,k,ls,r) l=some (bytesI (labW B l),bad || !(decide (LabOk l)),k,l,r):=by
  rw[script_writer_labels_eq,label_text n l,obs]
  unfold labW
  have hl:(if LabOk l then textL l else []).length≤10000:=by
    split
    · rename_i h;exact textL_len h
    · simp
  have e1:(if LabOk l then (textL l,(0:Int)) else ([],8)).1=if LabOk l then textL l else []:=by split<;>rfl
  have e2:decide ((if LabOk l then (textL l,(0:Int)) else ([],8)).2=0)=decide (LabOk l):=by
    by_cases h:LabOk l
    · rw[if_pos h,decide_eq_true h];rfl
    · rw[if_neg h,decide_eq_false h];rfl
  rw[e1,e2]
  cases bad with
  | true =>
    simp only[tft]
    rw[word_val (n+6) B _ (true,k,ls,r) (by omega) (by omega),obs]
    simp
  | false =>
    simp only[tff]
    rw[word_val (n+6) B _ (!decide (LabOk l),k,ls,r) (by omega) (by omega),obs]
    simp
theorem labW_len (B:List UInt8) (l:List Lab):(labW B l).length≤B.length+10001:=by
  unfold labW
  have hl:(if LabOk l then textL l else []).length≤10000:=by
    split
    · rename_i h;exact textL_len h
    · simp
  have:=wordW_len B (if LabOk l then textL l else [])
  omega
theorem numsW_len:∀(l:List Int) (B:List UInt8),(∀i∈l,I64 i)→(numsW B l).length≤B.length+22*l.length
  | [],B,_=>by simp[numsW]
  | i::l,B,h=>by
    rw[numsW_cons]
    have h1:=nt_len (h i List.mem_cons_self)
    have h2:=wordW_len B (nt i)
    have h3:=numsW_len l (wordW B (nt i)) fun j hj=>h j (List.mem_cons_of_mem _ hj)
    simp;omega
theorem wordW_ne {B:List UInt8} (h:B≠[]) (s:List UInt8):wordW B s=B++32::s:=if_neg h
theorem wordW_nil (s:List UInt8):wordW [] s=s:=if_pos rfl
theorem numsW_eq:∀(l:List Int) (B:List UInt8),B≠[]→numsW B l=B++l.flatMap (fun i=>32::nt i)
  | [],B,_=>by simp[numsW]
  | i::l,B,h=>by
    rw[numsW_cons,wordW_ne h,numsW_eq l _ (by simp)]
    simp
def z0A:ActT:=(0,[],e0,0,0,0,0)
def Wrote (a:ActT) (o:Option (List Int×(Bool×ActT))):Prop :=
  ∃B bad,o=some (bytesI B,bad,told a)∧B.length≤600000∧(bad=false↔okK a)∧(okK a→B=txtA a)
theorem act1 (n:Nat) (a:ActT) (hw:ActW a) (h:a.1=1):Wrote a (script_writer_act (n+9) ([],false,z0A) a):=by
  have het:=hw.e.t
  have hec:=hw.e.c
  rw[script_writer_act_eq]
  simp only[tfd,if_pos h]
  rw[script_writer_event_eq]
  have htold:told a=(1,a.2.1,(if a.2.2.1.2.2.2=true then (a.2.2.1.1,0,0,true) else a.2.2.1),0,0,0,0):=by unfold told;rw[if_pos h]
  have hok:okK a↔(0≤a.2.2.1.1∧(a.2.2.1.2.2.2=true∨0≤a.2.2.1.2.2.1))∧LabOk a.2.1:=by unfold okK;rw[if_pos h]
  have htx:txtA a=(if a.2.2.1.2.2.2=true then wStale++32::nt a.2.2.1.1 else wWrite++32::(toB (decI a.2.2.1.2.1.toNat)++32::(nt a.2.2.1.1++32::nt a.2.2.1.2.2.1)))++32::textL a.2.1:=by unfold txtA;rw[if_pos h]
  rw[tif_ite]
  by_cases hs:a.2.2.1.2.2.2=true
  · rw[if_pos hs]
    rw[if_pos hs] at htold htx
    have e1:=word_val (n+6) [] wStale (false,a.1,[],(a.2.2.1.1,0,0,true),0,0,0,0) (by simp) (by decide)
    rw[wordW_nil] at e1
    have e2:=nums_val (n+1) (a.1,[],(a.2.2.1.1,0,0,true),0,0,0,0) [a.2.2.1.1] (by simp) (fun i hi=>by simp at hi;rw[hi];exact het) wStale false (by decide)
    have hB:(numsW wStale [a.2.2.1.1]).length≤30:=by
      have:=numsW_len [a.2.2.1.1] wStale (fun i hi=>by simp at hi;rw[hi];exact het)
      have h5:wStale.length=5:=rfl
      simp at this;omega
    have e3:=labels_val n (numsW wStale [a.2.2.1.1]) (false||[a.2.2.1.1].any fun i=>decide (i<0)) a.1 [] a.2.1 ((a.2.2.1.1,0,0,true),0,0,0,0) (by omega)
    refine ⟨labW (numsW wStale [a.2.2.1.1]) a.2.1,(false||[a.2.2.1.1].any fun i=>decide (i<0)) || !(decide (LabOk a.2.1)),?_,?_,?_,?_⟩
    · show obind (obind (script_writer_word (n+7) (bytesI [],(false,a.1,[],(a.2.2.1.1,0,0,true),0,0,0,0)) wStale) fun r0=>obind (script_writer_nums (n+7) r0 [a.2.2.1.1]) fun r1=>some r1) (fun r0=>obind (script_writer_labels (n+8) r0 a.2.1) fun r1=>some r1)=_
      rw[e1,obs,e2,obs,obs,e3,obs,htold,h]
    · have:=labW_len (numsW wStale [a.2.2.1.1]) a.2.1
      omega
    · rw[hok]
      simp[hs]
    · intro k
      rw[hok] at k
      rw[htx]
      unfold labW
      rw[if_pos k.2,numsW_eq _ _ (by decide),wordW_ne (by simp[wStale])]
      simp
  · rw[if_neg hs]
    rw[if_neg hs] at htold htx
    have hV:=hw.e.v
    have hd:=dec_len hV.1 hV.2
    have e1:=word_val (n+6) [] wWrite (false,a.1,[],a.2.2.1,0,0,0,0) (by simp) (by decide)
    rw[wordW_nil] at e1
    have e1':=word_val (n+6) wWrite (toB (decI a.2.2.1.2.1.toNat)) (false,a.1,[],a.2.2.1,0,0,0,0) (by decide) (by omega)
    have hI:∀i∈[a.2.2.1.1,a.2.2.1.2.2.1],I64 i:=fun i hi=>by
      simp at hi
      rcases hi with rfl | rfl
      · exact het
      · exact hec
    have h5:wWrite.length=5:=rfl
    have hw1:=wordW_len wWrite (toB (decI a.2.2.1.2.1.toNat))
    have e2:=nums_val (n+1) (a.1,[],a.2.2.1,0,0,0,0) [a.2.2.1.1,a.2.2.1.2.2.1] (by simp) hI (wordW wWrite (toB (decI a.2.2.1.2.1.toNat))) false (by omega)
    have hB:(numsW (wordW wWrite (toB (decI a.2.2.1.2.1.toNat))) [a.2.2.1.1,a.2.2.1.2.2.1]).length≤90:=by
      have:=numsW_len [a.2.2.1.1,a.2.2.1.2.2.1] (wordW wWrite (toB (decI a.2.2.1.2.1.toNat))) hI
      simp at this;omega
    have e3:=labels_val n (numsW (wordW wWrite (toB (decI a.2.2.1.2.1.toNat))) [a.2.2.1.1,a.2.2.1.2.2.1]) (false||[a.2.2.1.1,a.2.2.1.2.2.1].any fun i=>decide (i<0)) a.1 [] a.2.1 (a.2.2.1,0,0,0,0) (by omega)
    refine ⟨labW (numsW (wordW wWrite (toB (decI a.2.2.1.2.1.toNat))) [a.2.2.1.1,a.2.2.1.2.2.1]) a.2.1,(false||[a.2.2.1.1,a.2.2.1.2.2.1].any fun i=>decide (i<0)) || !(decide (LabOk a.2.1)),?_,?_,?_,?_⟩
    · show obind (obind (script_writer_word (n+7) (bytesI [],(false,a.1,[],a.2.2.1,0,0,0,0)) wWrite) fun r2=>obind (strconv_AppendUint (n+7) [] a.2.2.1.2.1 10) fun r3=>obind (script_writer_word (n+7) r2 (toB r3)) fun r5=>obind (script_writer_nums (n+7) r5 [a.2.2.1.1,a.2.2.1.2.2.1]) fun r6=>some r6) (fun r0=>obind (script_writer_labels (n+8) r0 a.2.1) fun r1=>some r1)=_
      rw[e1,obs,appendU_val (n+3) hV.1 hV.2,obs,e1',obs,e2,obs,obs,e3,obs,htold,h]
    · have:=labW_len (numsW (wordW wWrite (toB (decI a.2.2.1.2.1.toNat))) [a.2.2.1.1,a.2.2.1.2.2.1]) a.2.1
      omega
    · rw[hok]
      simp[hs]
    · intro k
      rw[hok] at k
      rw[htx]
      unfold labW
      have ew:wordW wWrite (toB (decI a.2.2.1.2.1.toNat))=wWrite++32::toB (decI a.2.2.1.2.1.toNat):=wordW_ne (by decide) _
      rw[if_pos k.2,ew,numsW_eq _ _ (by simp),wordW_ne (by simp)]
      simp
theorem span_val (n:Nat) (a:ActT) (hw:ActW a) (B:List UInt8) (hB:B.length≤300000) (bad:Bool) (x:ActT) :
    script_writer_span (n+7) (bytesI B,bad,x) a=some (bytesI (numsW B [a.2.2.2.1,a.2.2.2.2.1,a.2.2.2.2.2.1]),bad||[a.2.2.2.1,a.2.2.2.2.1,a.2.2.2.2.2.1].any (fun i=>decide (i<0)),(x.1,x.2.1,x.2.2.1,a.2.2.2.1,a.2.2.2.2.1,a.2.2.2.2.2.1,x.2.2.2.2.2.2)):=by
  have hI:∀i∈[a.2.2.2.1,a.2.2.2.2.1,a.2.2.2.2.2.1],I64 i:=fun i hi=>by
    simp at hi
    rcases hi with rfl | rfl | rfl
    · exact hw.t
    · exact hw.fa
    · exact hw.fb
  rw[script_writer_span_eq,nums_val n x _ (by simp) hI B bad (by omega),obs]
theorem span_I {a:ActT} (hw:ActW a):∀i∈[a.2.2.2.1,a.2.2.2.2.1,a.2.2.2.2.2.1],I64 i:=fun i hi=>by
  simp at hi
  rcases hi with rfl | rfl | rfl
  · exact hw.t
  · exact hw.fa
  · exact hw.fb
theorem act5 (n:Nat) (a:ActT) (hw:ActW a) (h:a.1=5):Wrote a (script_writer_act (n+9) ([],false,z0A) a):=by
  rw[script_writer_act_eq]
  simp only[tfd,if_neg (show ¬a.1=1 by omega),if_pos h]
  have htold:told a=(5,a.2.1,e0,a.2.2.2.1,a.2.2.2.2.1,a.2.2.2.2.2.1,0):=by unfold told;rw[if_neg (by omega),if_pos h]
  have hok:okK a↔(0≤a.2.2.2.1∧0≤a.2.2.2.2.1∧0≤a.2.2.2.2.2.1)∧LabOk a.2.1:=by unfold okK;rw[if_neg (by omega),if_pos h]
  have htx:txtA a=wAsk++32::(nt a.2.2.2.1++32::(nt a.2.2.2.2.1++32::(nt a.2.2.2.2.2.1++32::textL a.2.1))):=by unfold txtA;rw[if_neg (by omega),if_pos h]
  have e1:=word_val (n+7) [] wAsk (false,a.1,[],e0,0,0,0,0) (by simp) (by decide)
  rw[wordW_nil] at e1
  have e2:=span_val (n+1) a hw wAsk (by decide) false (a.1,[],e0,0,0,0,0)
  have hB:(numsW wAsk [a.2.2.2.1,a.2.2.2.2.1,a.2.2.2.2.2.1]).length≤90:=by
    have:=numsW_len _ wAsk (span_I hw)
    have h3:wAsk.length=3:=rfl
    simp at this;omega
  have e3:=labels_val n (numsW wAsk [a.2.2.2.1,a.2.2.2.2.1,a.2.2.2.2.2.1]) (false||[a.2.2.2.1,a.2.2.2.2.1,a.2.2.2.2.2.1].any fun i=>decide (i<0)) a.1 [] a.2.1 (e0,a.2.2.2.1,a.2.2.2.2.1,a.2.2.2.2.2.1,0) (by omega)
  refine ⟨labW (numsW wAsk [a.2.2.2.1,a.2.2.2.2.1,a.2.2.2.2.2.1]) a.2.1,(false||[a.2.2.2.1,a.2.2.2.2.1,a.2.2.2.2.2.1].any fun i=>decide (i<0)) || !(decide (LabOk a.2.1)),?_,?_,?_,?_⟩
  · show obind (script_writer_word (n+8) (bytesI [],(false,a.1,[],e0,0,0,0,0)) wAsk) (fun r2=>obind (script_writer_span (n+8) r2 a) fun r3=>obind (script_writer_labels (n+8) r3 a.2.1) fun r4=>some r4)=_
    rw[e1,obs,e2,obs]
    dsimp only
    rw[e3,obs,htold,h]
  · have:=labW_len (numsW wAsk [a.2.2.2.1,a.2.2.2.2.1,a.2.2.2.2.2.1]) a.2.1
    omega
  · rw[hok]
    simp
  · intro k
    rw[hok] at k
    rw[htx]
    unfold labW
    rw[if_pos k.2,numsW_eq _ _ (by decide),wordW_ne (by simp[wAsk])]
    simp
theorem act6 (n:Nat) (a:ActT) (hw:ActW a) (h:a.1=6):Wrote a (script_writer_act (n+9) ([],false,z0A) a):=by
  rw[script_writer_act_eq]
  simp only[tfd,if_neg (show ¬a.1=1 by omega),if_neg (show ¬a.1=5 by omega),if_pos h]
  have htold:told a=(6,[],e0,a.2.2.2.1,a.2.2.2.2.1,a.2.2.2.2.2.1,0):=by unfold told;rw[if_neg (by omega),if_neg (by omega),if_pos h]
  have hok:okK a↔(0≤a.2.2.2.1∧0≤a.2.2.2.2.1∧0≤a.2.2.2.2.2.1):=by unfold okK;rw[if_neg (by omega),if_neg (by omega),if_pos h]
  have htx:txtA a=wTotal++32::(nt a.2.2.2.1++32::(nt a.2.2.2.2.1++32::nt a.2.2.2.2.2.1)):=by unfold txtA;rw[if_neg (by omega),if_neg (by omega),if_pos h]
  have e1:=word_val (n+7) [] wTotal (false,a.1,[],e0,0,0,0,0) (by simp) (by decide)
  rw[wordW_nil] at e1
  have e2:=span_val (n+1) a hw wTotal (by decide) false (a.1,[],e0,0,0,0,0)
  refine ⟨numsW wTotal [a.2.2.2.1,a.2.2.2.2.1,a.2.2.2.2.2.1],(false||[a.2.2.2.1,a.2.2.2.2.1,a.2.2.2.2.2.1].any fun i=>decide (i<0)),?_,?_,?_,?_⟩
  · show obind (script_writer_word (n+8) (bytesI [],(false,a.1,[],e0,0,0,0,0)) wTotal) (fun r2=>obind (script_writer_span (n+8) r2 a) fun r3=>some r3)=_
    rw[e1,obs,e2,obs,htold,h]
  · have:=numsW_len _ wTotal (span_I hw)
    have h3:wTotal.length=5:=rfl
    simp at this;omega
  · rw[hok]
    simp
  · intro k
    rw[htx,numsW_eq _ _ (by decide)]
    simp
theorem actN (n:Nat) (a:ActT) (hw:ActW a) (w:List UInt8) (hwn:w≠[]) (hwl:w.length≤10) (h:a.1=2∨a.1=8∨a.1=9) (hp:script_plain (n+8) a.1=some (w,true)) (htx:txtA a=w++32::nt a.2.2.2.2.2.2):Wrote a (script_writer_act (n+9) ([],false,z0A) a):=by
  rw[script_writer_act_eq]
  simp only[tfd,if_neg (show ¬a.1=1 by omega),if_neg (show ¬a.1=5 by omega),if_neg (show ¬a.1=6 by omega)]
  rw[hp,obs]
  have htold:told a=(a.1,[],e0,0,0,0,a.2.2.2.2.2.2):=by unfold told;rw[if_neg (by omega),if_neg (by omega),if_neg (by omega),if_pos h]
  have hok:okK a↔0≤a.2.2.2.2.2.2:=by unfold okK;rw[if_neg (by omega),if_neg (by omega),if_neg (by omega),if_pos h]
  have e1:=word_val (n+7) [] w (false,a.1,[],e0,0,0,0,0) (by simp) (by omega)
  rw[wordW_nil] at e1
  have hI:∀i∈[a.2.2.2.2.2.2],I64 i:=fun i hi=>by simp at hi;rw[hi];exact hw.fn
  have e2:=nums_val (n+2) (a.1,[],e0,0,0,0,0) [a.2.2.2.2.2.2] (by simp) hI w false (by omega)
  have hwe:(w==[])=false:=by
    cases w with
    | nil=>exact absurd rfl hwn
    | cons _ _=>rfl
  refine ⟨numsW w [a.2.2.2.2.2.2],(false||[a.2.2.2.2.2.2].any fun i=>decide (i<0)),?_,?_,?_,?_⟩
  · show obind (script_writer_word (n+8) (bytesI [],(false,a.1,[],e0,0,0,0,0)) w) _=_
    rw[e1,obs]
    simp only[tff,tft,hwe]
    show obind (script_writer_nums (n+8) (bytesI w,(false,a.1,[],e0,0,0,0,0)) [a.2.2.2.2.2.2]) _=_
    rw[e2,obs,htold]
  · have:=numsW_len [a.2.2.2.2.2.2] w hI
    simp at this;omega
  · rw[hok]
    simp
  · intro k
    rw[htx,numsW_cons,wordW_ne hwn]
    rfl
theorem act0 (n:Nat) (a:ActT) (w:List UInt8) (hwl:w.length≤10) (h:¬(a.1=1∨a.1=2∨a.1=5∨a.1=6∨a.1=8∨a.1=9)) (hp:script_plain (n+8) a.1=some (w,false)) (hk:(w==[])=false↔(a.1=3∨a.1=4∨a.1=7)) (htx:txtA a=w):Wrote a (script_writer_act (n+9) ([],false,z0A) a):=by
  rw[script_writer_act_eq]
  simp only[tfd,if_neg (show ¬a.1=1 by omega),if_neg (show ¬a.1=5 by omega),if_neg (show ¬a.1=6 by omega)]
  rw[hp,obs]
  have htold:told a=(a.1,[],e0,0,0,0,0):=by unfold told;rw[if_neg (by omega),if_neg (by omega),if_neg (by omega),if_neg (by omega)]
  have hok:okK a↔(a.1=3∨a.1=4∨a.1=7):=by unfold okK;rw[if_neg (by omega),if_neg (by omega),if_neg (by omega),if_neg (by omega)]
  have e1:=word_val (n+7) [] w (false,a.1,[],e0,0,0,0,0) (by simp) (by omega)
  rw[wordW_nil] at e1
  refine ⟨w,(w==[]),?_,by omega,?_,fun _=>htx.symm⟩
  · show obind (script_writer_word (n+8) (bytesI [],(false,a.1,[],e0,0,0,0,0)) w) _=_
    rw[e1,obs]
    simp only[tff]
    rw[htold]
  · rw[hok,hk]
theorem act_val (n:Nat) (a:ActT) (hw:ActW a):Wrote a (script_writer_act (n+9) ([],false,z0A) a):=by
  by_cases h1:a.1=1
  · exact act1 n a hw h1
  by_cases h5:a.1=5
  · exact act5 n a hw h5
  by_cases h6:a.1=6
  · exact act6 n a hw h6
  by_cases h2:a.1=2
  · exact actN n a hw wTick (by decide) (by decide) (.inl h2) (by rw[script_plain_eq];simp only[tfd,if_pos h2];rfl) (by unfold txtA;rw[if_neg h1,if_neg h5,if_neg h6,if_pos h2])
  by_cases h8:a.1=8
  · exact actN n a hw wArm (by decide) (by decide) (.inr (.inl h8)) (by rw[script_plain_eq];simp only[tfd,if_neg h2,if_pos h8];rfl) (by unfold txtA;rw[if_neg h1,if_neg h5,if_neg h6,if_neg h2,if_pos h8])
  by_cases h9:a.1=9
  · exact actN n a hw wLoad (by decide) (by decide) (.inr (.inr h9)) (by rw[script_plain_eq];simp only[tfd,if_neg h2,if_neg h8,if_pos h9];rfl) (by unfold txtA;rw[if_neg h1,if_neg h5,if_neg h6,if_neg h2,if_neg h8,if_pos h9])
  have hn:¬(a.1=1∨a.1=2∨a.1=5∨a.1=6∨a.1=8∨a.1=9):=by omega
  by_cases h3:a.1=3
  · exact act0 n a wSweep (by decide) hn (by rw[script_plain_eq];simp only[tfd,if_neg h2,if_neg h8,if_neg h9,if_pos h3];rfl) ⟨fun _ => .inl h3,fun _=>rfl⟩ (by unfold txtA;rw[if_neg h1,if_neg h5,if_neg h6,if_neg h2,if_neg h8,if_neg h9,if_pos h3])
  by_cases h4:a.1=4
  · exact act0 n a wFlush (by decide) hn (by rw[script_plain_eq];simp only[tfd,if_neg h2,if_neg h8,if_neg h9,if_neg h3,if_pos h4];rfl) ⟨fun _ => .inr (.inl h4),fun _=>rfl⟩ (by unfold txtA;rw[if_neg h1,if_neg h5,if_neg h6,if_neg h2,if_neg h8,if_neg h9,if_neg h3,if_pos h4])
  by_cases h7:a.1=7
  · exact act0 n a wDump (by decide) hn (by rw[script_plain_eq];simp only[tfd,if_neg h2,if_neg h8,if_neg h9,if_neg h3,if_neg h4,if_pos h7];rfl) ⟨fun _ => .inr (.inr h7),fun _=>rfl⟩ (by unfold txtA;rw[if_neg h1,if_neg h5,if_neg h6,if_neg h2,if_neg h8,if_neg h9,if_neg h3,if_neg h4,if_pos h7])
  · exact act0 n a [] (by decide) hn (by rw[script_plain_eq];simp only[tfd,if_neg h2,if_neg h8,if_neg h9,if_neg h3,if_neg h4,if_neg h7]) ⟨fun q=>(by cases q),fun q=>(by omega)⟩ (by unfold txtA;rw[if_neg h1,if_neg h5,if_neg h6,if_neg h2,if_neg h8,if_neg h9,if_neg h3,if_neg h4,if_neg h7])
theorem script_line (n:Nat) (a:ActT) (hw:ActW a):script_Line (n+10) a=some (if good a then (txtA a,0) else ([],2)):=by
  rw[script_Line_eq]
  obtain ⟨B,bad,h1,h2,h3,h4⟩:=act_val n a hw
  show obind (script_writer_act (n+9) ([],false,z0A) a) _=_
  rw[h1,obs]
  simp only[tif_ite,decide_eq_true_eq]
  cases hb:bad with
  | true =>
    rw[if_pos rfl,if_neg (fun g:good a=>by have:=h3.2 g.1;rw[hb] at this;cases this)]
  | false =>
    have hk:=h3.1 hb
    have hB:=h4 hk
    rw[if_neg (by simp),show (((bytesI B).length:Nat):Int)=((txtA a).length:Int) by rw[bytesI_length,hB]]
    by_cases hl:(4096:Int)<((txtA a).length:Int)
    · rw[if_pos hl,if_neg (fun g:good a=>by have:=g.2.2;omega)]
    rw[if_neg hl,script_same (n+6) a (told a) hw.l,obs]
    by_cases ht:a=told a
    · rw[decide_eq_true ht]
      have e:(List.map (fun y2=>(UInt8.ofNat (Int.toNat y2))) (bytesI B))=B:=toB_bytesI B
      rw[if_neg (by simp),if_pos (show good a from ⟨hk,ht.symm,by omega⟩),e,hB]
    · rw[decide_eq_false ht,if_pos (by simp),if_neg (fun g:good a=>ht g.2.1.symm)]
theorem nt_nn {x:Int} (h:0≤x):nt x=toB (decI x.toNat):=by
  unfold nt itoI
  rw[if_neg (by omega)]
theorem parseM_app (M:Nat) (r:List UInt8):∀(l:List UInt8) (acc:Nat),Lib.parseUintM M acc (l++r)=match Lib.parseUintM M acc l with | .ok a=>Lib.parseUintM M a r | Lib.NumEnd.syntax=>Lib.NumEnd.syntax | .range => .range
  | [],acc=>rfl
  | c::l,acc=>by
    simp only[List.cons_append,Lib.parseUintM]
    split
    · split
      · rfl
      split
      · rfl
      · exact parseM_app M r l _
    · rfl
theorem parseM_le (M:Nat):∀(l:List UInt8) (acc u:Nat),acc≤M→Lib.parseUintM M acc l = .ok u→u≤M
  | [],acc,u,h,e=>by
    unfold Lib.parseUintM at e
    injection e with e;omega
  | c::l,acc,u,h,e=>by
    unfold Lib.parseUintM at e
    split at e
    · split at e
      · cases e
      split at e
      · cases e
      · exact parseM_le M l _ u (by omega) e
    · cases e
theorem parseM_dec (M:Nat) (hM:M≤18446744073709551615):∀(k u:Nat),u≤k→u≤M→Lib.parseUintM M 0 (toB (decI u)) = .ok u:=by
  intro k
  induction k with
  | zero =>
    intro u hk hu
    have:u=0:=by omega
    subst this
    rw[decI_small (by omega)]
    show Lib.parseUintM M 0 [48]=_
    unfold Lib.parseUintM
    rw[if_pos (by decide),if_neg (by omega),if_neg (by simp)]
    rfl
  | succ k ih =>
    intro u hk hu
    have dig:∀d:Nat,d<10→(UInt8.ofNat (48+d)).toNat=48+d:=fun d hd=>by rw[UInt8.toNat_ofNat'];omega
    by_cases h:u<10
    · rw[decI_small h]
      show Lib.parseUintM M 0 [UInt8.ofNat (Int.toNat ((48+u:Nat):Int))]=_
      rw[Int.toNat_natCast]
      unfold Lib.parseUintM
      rw[dig u h,if_pos (by omega),if_neg (by omega),if_neg (by omega)]
      unfold Lib.parseUintM
      congr 1
      omega
    · rw[decI_step (by omega) (by omega),toB_append,parseM_app,ih (u / 10) (by omega) (by omega)]
      show Lib.parseUintM M (u / 10) [UInt8.ofNat (Int.toNat ((48+u % 10:Nat):Int))]=_
      rw[Int.toNat_natCast]
      unfold Lib.parseUintM
      rw[dig (u % 10) (by omega),if_pos (by omega),if_neg (by omega),if_neg (by omega)]
      unfold Lib.parseUintM
      congr 1
      omega
theorem decI_ne (u:Nat):toB (decI u)≠[]:=by
  intro h
  have:=congrArg List.length h
  unfold decI at this
  rw[toB_length,dgs_len] at this
  have:=ndg_pos u
  simp at *;omega
theorem puV_dec (B:Nat) (hB:2^B-1≤18446744073709551615) {u:Nat} (hu:u≤2^B-1):puV B (toB (decI u))=((u:Int),false):=by
  unfold puV Lib.parseUintB
  rw[if_neg (decI_ne u),parseM_dec (2^B-1) hB u u (Nat.le_refl _) hu]
theorem puV_range (B:Nat) (l:List UInt8):0≤(puV B l).1∧(puV B l).1≤((2^B-1:Nat):Int):=by
  unfold puV Lib.parseUintB
  split
  · rename_i u h
    split at h
    · cases h
    · have:=parseM_le (2^B-1) l 0 u (by omega) h
      exact ⟨by simp,by show (u:Int)≤_;omega⟩
  · exact ⟨by simp,by simp⟩
  · exact ⟨by simp,by simp⟩
theorem I64_wrap (x:Int):I64 (IntKind.wrap .i64 x):=by
  unfold I64
  rw[IntKind.wrap_i64]
  omega
def wd (s:List UInt8):List UInt8:=(cutV s [32]).1
def rs (s:List UInt8):List UInt8:=(cutV s [32]).2.1
theorem wd_len (s:List UInt8):(wd s).length≤s.length:=(cutV_len s [32]).1
theorem rs_len (s:List UInt8):(rs s).length≤s.length:=(cutV_len s [32]).2
theorem wd_at {a t:List UInt8} (h:(32:UInt8) ∉ a):wd (a++32::t)=a∧rs (a++32::t)=t:=by
  have:=cutV_at (t:=t) (r:=[]) h
  unfold wd rs
  rw[show a++32::t=a++([32]++t) by simp,this]
  exact ⟨rfl,rfl⟩
theorem wd_end {a:List UInt8} (h:(32:UInt8) ∉ a):wd a=a∧rs a=[]:=by
  have:=cutV_no (r:=[]) h
  unfold wd rs
  rw[this]
  exact ⟨rfl,rfl⟩
theorem rword_val (n:Nat) (s:List UInt8) (bad:Bool) (hs:s.length≤100000):script_reader_word (n+4) (s,bad)=some (wd s,rs s,bad):=by
  rw[script_reader_word_eq,cut_val n s [32] (by omega) (by simp) (by simp),obs]
  rfl
theorem rbig_val (n:Nat) (s:List UInt8) (bad:Bool) (B:Nat) (hB:B=63∨B=64) (hs:s.length≤100000):script_reader_big (n+5) (s,bad) (B:Int)=some ((puV B (wd s)).1,rs s,bad||(puV B (wd s)).2):=by
  have hl:=wd_len s
  rw[script_reader_big_eq,rword_val n s bad hs,obs,strconv_ParseUint_eq,gParseUint,tif_ite,if_pos (by simp;omega),obs]
  cases bad<;>simp
theorem rnum_val (n:Nat) (s:List UInt8) (bad:Bool) (hs:s.length≤100000):script_reader_num (n+6) (s,bad)=some (IntKind.wrap .i64 (puV 63 (wd s)).1,rs s,bad||(puV 63 (wd s)).2):=by
  rw[script_reader_num_eq]
  have:=rbig_val n s bad 63 (.inl rfl) hs
  rw[show ((63:Nat):Int)=63 from rfl] at this
  rw[this,obs]
theorem rlab_tot (n:Nat) (s:List UInt8) (bad:Bool) (hs:s.length≤100000):∃l b,script_reader_labels (n+8) (s,bad)=some (l,s,b)∧(LabOk l∨l=[]):=by
  obtain ⟨r,h1,h2⟩:=label_parse_tot n s hs
  rw[script_reader_labels_eq,h1,obs]
  have h3:LabOk r.1∨r.1=[]:=by
    rcases h2 with q | q
    · exact .inl q.2
    · rw[q];exact .inr rfl
  cases bad with
  | true=>exact ⟨_,_,rfl,h3⟩
  | false=>exact ⟨_,_,rfl,h3⟩
theorem rlab_text (n:Nat) {l:List Lab} (h:LabOk l):script_reader_labels (n+8) (textL l,false)=some (l,textL l,false):=by
  rw[script_reader_labels_eq,label_parse_text n h,obs]
  rfl
theorem lab_len {l:List Lab} (h:LabOk l∨l=[]):l.length≤1000000:=by
  rcases h with h | h
  · have:=h.n1;omega
  · subst h;simp
theorem ract_tot (n:Nat) (s:List UInt8) (hs:s.length≤50000):∃a r b,script_reader_act (n+9) (s,false)=some (a,r,b)∧ActW a:=by
  have l0:s.length≤100000:=by omega
  have l1:(rs s).length≤100000:=by have:=rs_len s;omega
  have l2:(rs (rs s)).length≤100000:=by have:=rs_len (rs s);omega
  have l3:(rs (rs (rs s))).length≤100000:=by have:=rs_len (rs (rs s));omega
  have l4:(rs (rs (rs (rs s)))).length≤100000:=by have:=rs_len (rs (rs (rs s)));omega
  have z:I64 0:=by unfold I64;omega
  have ez:EvW e0:=⟨z,by simp[e0],z⟩
  rw[script_reader_act_eq,rword_val (n+4) s false l0,obs]
  simp only[tif_ite]
  by_cases k1:(wd s==[119,114,105,116,101])=true
  · rw[if_pos k1]
    have e1:=rbig_val (n+3) (rs s) false 64 (.inr rfl) l1
    rw[show ((64:Nat):Int)=64 from rfl] at e1
    rw[e1,obs]
    dsimp only
    rw[rnum_val (n+2) (rs (rs s)) _ l2,obs]
    dsimp only
    rw[rnum_val (n+2) (rs (rs (rs s))) _ l3,obs]
    dsimp only
    obtain ⟨l,b,q1,q2⟩:=rlab_tot n (rs (rs (rs (rs s)))) ((false||(puV 64 (wd (rs s))).2||(puV 63 (wd (rs (rs s)))).2)||(puV 63 (wd (rs (rs (rs s))))).2) l4
    rw[q1,obs]
    have:=puV_range 64 (wd (rs s))
    exact ⟨_,_,_,rfl,lab_len q2,⟨I64_wrap _,⟨this.1,this.2⟩,I64_wrap _⟩,z,z,z,z⟩
  rw[if_neg k1]
  by_cases k2:(wd s==[115,116,97,108,101])=true
  · rw[if_pos k2,rnum_val (n+2) (rs s) _ l1,obs]
    dsimp only
    obtain ⟨l,b,q1,q2⟩:=rlab_tot n (rs (rs s)) (false||(puV 63 (wd (rs s))).2) l2
    rw[q1,obs]
    exact ⟨_,_,_,rfl,lab_len q2,⟨I64_wrap _,by simp,z⟩,z,z,z,z⟩
  rw[if_neg k2]
  by_cases k3:(wd s==[97,115,107])=true
  · rw[if_pos k3,rnum_val (n+2) (rs s) _ l1,obs]
    dsimp only
    rw[rnum_val (n+2) (rs (rs s)) _ l2,obs]
    dsimp only
    rw[rnum_val (n+2) (rs (rs (rs s))) _ l3,obs]
    dsimp only
    obtain ⟨l,b,q1,q2⟩:=rlab_tot n (rs (rs (rs (rs s)))) ((false||(puV 63 (wd (rs s))).2||(puV 63 (wd (rs (rs s)))).2)||(puV 63 (wd (rs (rs (rs s))))).2) l4
    rw[q1,obs]
    exact ⟨_,_,_,rfl,lab_len q2,ez,I64_wrap _,I64_wrap _,I64_wrap _,z⟩
  rw[if_neg k3]
  by_cases k4:(wd s==[116,111,116,97,108])=true
  · rw[if_pos k4,rnum_val (n+2) (rs s) _ l1,obs]
    dsimp only
    rw[rnum_val (n+2) (rs (rs s)) _ l2,obs]
    dsimp only
    rw[rnum_val (n+2) (rs (rs (rs s))) _ l3,obs]
    exact ⟨_,_,_,rfl,by simp,ez,I64_wrap _,I64_wrap _,I64_wrap _,z⟩
  rw[if_neg k4]
  by_cases k5:(wd s==[116,105,99,107])=true
  · rw[if_pos k5,rnum_val (n+2) (rs s) _ l1,obs]
    exact ⟨_,_,_,rfl,by simp,ez,z,z,z,I64_wrap _⟩
  rw[if_neg k5]
  by_cases k6:(wd s==[97,114,109])=true
  · rw[if_pos k6,rnum_val (n+2) (rs s) _ l1,obs]
    exact ⟨_,_,_,rfl,by simp,ez,z,z,z,I64_wrap _⟩
  rw[if_neg k6]
  by_cases k7:(wd s==[108,111,97,100])=true
  · rw[if_pos k7,rnum_val (n+2) (rs s) _ l1,obs]
    exact ⟨_,_,_,rfl,by simp,ez,z,z,z,I64_wrap _⟩
  rw[if_neg k7]
  by_cases k8:(wd s==[115,119,101,101,112])=true
  · rw[if_pos k8];exact ⟨_,_,_,rfl,by simp,ez,z,z,z,z⟩
  rw[if_neg k8]
  by_cases k9:(wd s==[102,108,117,115,104])=true
  · rw[if_pos k9];exact ⟨_,_,_,rfl,by simp,ez,z,z,z,z⟩
  rw[if_neg k9]
  by_cases k10:(wd s==[100,117,109,112])=true
  · rw[if_pos k10];exact ⟨_,_,_,rfl,by simp,ez,z,z,z,z⟩
  rw[if_neg k10]
  exact ⟨_,_,_,rfl,by simp,ez,z,z,z,z⟩
theorem dec_no (u:Nat) {c:UInt8} (hc:c.toNat<48):c ∉ toB (decI u):=by
  intro h
  simp only[toB,List.mem_map] at h
  obtain ⟨x,hx,he⟩:=h
  have hr:=decI_range u x hx
  have:=congrArg UInt8.toNat he
  rw[UInt8.toNat_ofNat'] at this
  omega
theorem nt_no {x:Int} (h:0≤x):(32:UInt8) ∉ nt x:=by
  rw[nt_nn h];exact dec_no _ (by decide)
theorem nt_read {x:Int} (h:0≤x) (h1:I64 x):puV 63 (nt x)=(x,false)∧IntKind.wrap .i64 x=x:=by
  rw[nt_nn h,puV_dec 63 (by decide) (by have:=h1.2;omega)]
  refine ⟨?_,w64 h1.1 h1.2⟩
  rw[show ((x.toNat:Nat):Int)=x by omega]
theorem ract_good (n:Nat) {a:ActT} (hw:ActW a) (g:good a):∃r,script_reader_act (n+9) (txtA a,false)=some (a,r,false):=by
  have hlen:=g.2.2
  have ht:=g.2.1
  have hk:=g.1
  have l0:(txtA a).length≤100000:=by omega
  have e64:((64:Nat):Int)=64:=rfl
  rw[script_reader_act_eq,rword_val (n+4) (txtA a) false l0,obs]
  simp only[tif_ite]
  by_cases h1:a.1=1
  · have hok:(0≤a.2.2.1.1∧(a.2.2.1.2.2.2=true∨0≤a.2.2.1.2.2.1))∧LabOk a.2.1:=by unfold okK at hk;rw[if_pos h1] at hk;exact hk
    obtain ⟨⟨kT,kC⟩,hlo⟩:=hok
    obtain ⟨pT,qT⟩:=nt_read kT hw.e.t
    by_cases hs:a.2.2.1.2.2.2=true
    · have htx:txtA a=wStale++32::(nt a.2.2.1.1++32::textL a.2.1):=by unfold txtA;rw[if_pos h1,if_pos hs];simp
      have htold:told a=(1,a.2.1,(a.2.2.1.1,0,0,true),0,0,0,0):=by unfold told;rw[if_pos h1,if_pos hs]
      obtain ⟨w1,r1⟩:=wd_at (a:=wStale) (t:=nt a.2.2.1.1++32::textL a.2.1) (by decide)
      obtain ⟨w2,r2⟩:=wd_at (t:=textL a.2.1) (nt_no kT)
      rw[←htx] at w1 r1
      have l1:(rs (txtA a)).length≤100000:=by have:=rs_len (txtA a);omega
      have ew:(wd (txtA a)==[119,114,105,116,101])=false:=by rw[w1];rfl
      have ew2:(wd (txtA a)==[115,116,97,108,101])=true:=by rw[w1];rfl
      rw[if_neg (by rw[ew];simp),if_pos ew2,rnum_val (n+2) _ false l1,obs]
      dsimp only
      rw[r1,w2,r2,pT]
      show ∃r,(obind (script_reader_labels (n+8) (textL a.2.1,false)) fun r6=>some (((1:Int),(r6.1,((IntKind.wrap .i64 a.2.2.1.1,((0:Int),((0:Int),true))),((0:Int),((0:Int),((0:Int),(0:Int))))))),r6.2))=_
      rw[rlab_text n hlo,obs,qT]
      refine ⟨textL a.2.1,?_⟩
      rw[show ((1:Int),(a.2.1,((a.2.2.1.1,((0:Int),((0:Int),true))),((0:Int),((0:Int),((0:Int),(0:Int)))))))=a from htold.symm.trans ht]
    · have kC':0≤a.2.2.1.2.2.1:=by rcases kC with q | q;exact absurd q hs;exact q
      obtain ⟨pC,qC⟩:=nt_read kC' hw.e.c
      have hV:=hw.e.v
      have htx:txtA a=wWrite++32::(toB (decI a.2.2.1.2.1.toNat)++32::(nt a.2.2.1.1++32::(nt a.2.2.1.2.2.1++32::textL a.2.1))):=by unfold txtA;rw[if_pos h1,if_neg hs];simp
      have htold:told a=(1,a.2.1,a.2.2.1,0,0,0,0):=by unfold told;rw[if_pos h1,if_neg hs]
      obtain ⟨w1,r1⟩:=wd_at (a:=wWrite) (t:=toB (decI a.2.2.1.2.1.toNat)++32::(nt a.2.2.1.1++32::(nt a.2.2.1.2.2.1++32::textL a.2.1))) (by decide)
      obtain ⟨w2,r2⟩:=wd_at (t:=nt a.2.2.1.1++32::(nt a.2.2.1.2.2.1++32::textL a.2.1)) (dec_no a.2.2.1.2.1.toNat (c:=32) (by decide))
      obtain ⟨w3,r3⟩:=wd_at (t:=nt a.2.2.1.2.2.1++32::textL a.2.1) (nt_no kT)
      obtain ⟨w4,r4⟩:=wd_at (t:=textL a.2.1) (nt_no kC')
      rw[←htx] at w1 r1
      have l1:(rs (txtA a)).length≤100000:=by have:=rs_len (txtA a);omega
      have l2:(rs (rs (txtA a))).length≤100000:=by have:=rs_len (rs (txtA a));omega
      have l3:(rs (rs (rs (txtA a)))).length≤100000:=by have:=rs_len (rs (rs (txtA a)));omega
      have ew:(wd (txtA a)==[119,114,105,116,101])=true:=by rw[w1];rfl
      have pV:puV 64 (toB (decI a.2.2.1.2.1.toNat))=(a.2.2.1.2.1,false):=by
        rw[puV_dec 64 (by decide) (by omega),show ((a.2.2.1.2.1.toNat:Nat):Int)=a.2.2.1.2.1 by omega]
      have e1:=rbig_val (n+3) (rs (txtA a)) false 64 (.inr rfl) l1
      rw[e64] at e1
      rw[if_pos ew,e1,obs]
      dsimp only
      rw[rnum_val (n+2) _ _ l2,obs]
      dsimp only
      rw[rnum_val (n+2) _ _ l3,obs]
      dsimp only
      rw[r1,w2,r2,w3,r3,w4,r4,pV,pT,pC]
      show ∃r,(obind (script_reader_labels (n+8) (textL a.2.1,false)) fun r4=>some (((1:Int),(r4.1,((IntKind.wrap .i64 a.2.2.1.1,(a.2.2.1.2.1,(IntKind.wrap .i64 a.2.2.1.2.2.1,false))),((0:Int),((0:Int),((0:Int),(0:Int))))))),r4.2))=_
      rw[rlab_text n hlo,obs,qT,qC]
      refine ⟨textL a.2.1,?_⟩
      have hs':a.2.2.1.2.2.2=false:=by simpa using hs
      rw[←hs']
      rw[show ((1:Int),(a.2.1,((a.2.2.1.1,(a.2.2.1.2.1,(a.2.2.1.2.2.1,a.2.2.1.2.2.2))),((0:Int),((0:Int),((0:Int),(0:Int)))))))=a from htold.symm.trans ht]
  by_cases h5:a.1=5
  · have hok:(0≤a.2.2.2.1∧0≤a.2.2.2.2.1∧0≤a.2.2.2.2.2.1)∧LabOk a.2.1:=by unfold okK at hk;rw[if_neg h1,if_pos h5] at hk;exact hk
    obtain ⟨⟨kT,kA,kB⟩,hlo⟩:=hok
    obtain ⟨pT,qT⟩:=nt_read kT hw.t
    obtain ⟨pA,qA⟩:=nt_read kA hw.fa
    obtain ⟨pB,qB⟩:=nt_read kB hw.fb
    have htx:txtA a=wAsk++32::(nt a.2.2.2.1++32::(nt a.2.2.2.2.1++32::(nt a.2.2.2.2.2.1++32::textL a.2.1))):=by unfold txtA;rw[if_neg h1,if_pos h5]
    have htold:told a=(5,a.2.1,e0,a.2.2.2.1,a.2.2.2.2.1,a.2.2.2.2.2.1,0):=by unfold told;rw[if_neg h1,if_pos h5]
    obtain ⟨w1,r1⟩:=wd_at (a:=wAsk) (t:=nt a.2.2.2.1++32::(nt a.2.2.2.2.1++32::(nt a.2.2.2.2.2.1++32::textL a.2.1))) (by decide)
    obtain ⟨w2,r2⟩:=wd_at (t:=nt a.2.2.2.2.1++32::(nt a.2.2.2.2.2.1++32::textL a.2.1)) (nt_no kT)
    obtain ⟨w3,r3⟩:=wd_at (t:=nt a.2.2.2.2.2.1++32::textL a.2.1) (nt_no kA)
    obtain ⟨w4,r4⟩:=wd_at (t:=textL a.2.1) (nt_no kB)
    rw[←htx] at w1 r1
    have l1:(rs (txtA a)).length≤100000:=by have:=rs_len (txtA a);omega
    have l2:(rs (rs (txtA a))).length≤100000:=by have:=rs_len (rs (txtA a));omega
    have l3:(rs (rs (rs (txtA a)))).length≤100000:=by have:=rs_len (rs (rs (txtA a)));omega
    rw[if_neg (by rw[w1];decide),if_neg (by rw[w1];decide),if_pos (by rw[w1];decide),rnum_val (n+2) _ false l1,obs]
    dsimp only
    rw[rnum_val (n+2) _ _ l2,obs]
    dsimp only
    rw[rnum_val (n+2) _ _ l3,obs]
    dsimp only
    rw[r1,w2,r2,w3,r3,w4,r4,pT,pA,pB]
    show ∃r,(obind (script_reader_labels (n+8) (textL a.2.1,false)) fun r10=>some (((5:Int),(r10.1,(((0:Int),((0:Int),((0:Int),false))),(IntKind.wrap .i64 a.2.2.2.1,(IntKind.wrap .i64 a.2.2.2.2.1,(IntKind.wrap .i64 a.2.2.2.2.2.1,(0:Int))))))),r10.2))=_
    rw[rlab_text n hlo,obs,qT,qA,qB]
    refine ⟨textL a.2.1,?_⟩
    rw[show ((5:Int),(a.2.1,(((0:Int),((0:Int),((0:Int),false))),(a.2.2.2.1,(a.2.2.2.2.1,(a.2.2.2.2.2.1,(0:Int)))))))=a from htold.symm.trans ht]
  by_cases h6:a.1=6
  · have hok:(0≤a.2.2.2.1∧0≤a.2.2.2.2.1∧0≤a.2.2.2.2.2.1):=by unfold okK at hk;rw[if_neg h1,if_neg h5,if_pos h6] at hk;exact hk
    obtain ⟨kT,kA,kB⟩:=hok
    obtain ⟨pT,qT⟩:=nt_read kT hw.t
    obtain ⟨pA,qA⟩:=nt_read kA hw.fa
    obtain ⟨pB,qB⟩:=nt_read kB hw.fb
    have htx:txtA a=wTotal++32::(nt a.2.2.2.1++32::(nt a.2.2.2.2.1++32::nt a.2.2.2.2.2.1)):=by unfold txtA;rw[if_neg h1,if_neg h5,if_pos h6]
    have htold:told a=(6,[],e0,a.2.2.2.1,a.2.2.2.2.1,a.2.2.2.2.2.1,0):=by unfold told;rw[if_neg h1,if_neg h5,if_pos h6]
    obtain ⟨w1,r1⟩:=wd_at (a:=wTotal) (t:=nt a.2.2.2.1++32::(nt a.2.2.2.2.1++32::nt a.2.2.2.2.2.1)) (by decide)
    obtain ⟨w2,r2⟩:=wd_at (t:=nt a.2.2.2.2.1++32::nt a.2.2.2.2.2.1) (nt_no kT)
    obtain ⟨w3,r3⟩:=wd_at (t:=nt a.2.2.2.2.2.1) (nt_no kA)
    obtain ⟨w4,r4⟩:=wd_end (nt_no kB)
    rw[←htx] at w1 r1
    have l1:(rs (txtA a)).length≤100000:=by have:=rs_len (txtA a);omega
    have l2:(rs (rs (txtA a))).length≤100000:=by have:=rs_len (rs (txtA a));omega
    have l3:(rs (rs (rs (txtA a)))).length≤100000:=by have:=rs_len (rs (rs (txtA a)));omega
    rw[if_neg (by rw[w1];decide),if_neg (by rw[w1];decide),if_neg (by rw[w1];decide),if_pos (by rw[w1];decide),rnum_val (n+2) _ false l1,obs]
    dsimp only
    rw[rnum_val (n+2) _ _ l2,obs]
    dsimp only
    rw[rnum_val (n+2) _ _ l3,obs]
    dsimp only
    rw[r1,w2,r2,w3,r3,w4,r4,pT,pA,pB,qT,qA,qB]
    refine ⟨[],?_⟩
    have e:((6:Int),(([]:List Lab),(((0:Int),((0:Int),((0:Int),false))),(a.2.2.2.1,(a.2.2.2.2.1,(a.2.2.2.2.2.1,(0:Int)))))))=a:=htold.symm.trans ht
    rw[e]
    rfl
  by_cases hN:a.1=2∨a.1=8∨a.1=9
  · have kN:0≤a.2.2.2.2.2.2:=by unfold okK at hk;rw[if_neg h1,if_neg h5,if_neg h6,if_pos hN] at hk;exact hk
    obtain ⟨pN,qN⟩:=nt_read kN hw.fn
    have htold:told a=(a.1,[],e0,0,0,0,a.2.2.2.2.2.2):=by unfold told;rw[if_neg h1,if_neg h5,if_neg h6,if_pos hN]
    obtain ⟨w2,r2⟩:=wd_end (nt_no kN)
    have l1:(rs (txtA a)).length≤100000:=by have:=rs_len (txtA a);omega
    have e:(a.1,(([]:List Lab),(((0:Int),((0:Int),((0:Int),false))),((0:Int),((0:Int),((0:Int),a.2.2.2.2.2.2))))))=a:=htold.symm.trans ht
    rcases hN with h2 | h8 | h9
    · have htx:txtA a=wTick++32::nt a.2.2.2.2.2.2:=by unfold txtA;rw[if_neg h1,if_neg h5,if_neg h6,if_pos h2]
      obtain ⟨w1,r1⟩:=wd_at (a:=wTick) (t:=nt a.2.2.2.2.2.2) (by decide)
      rw[←htx] at w1 r1
      rw[if_neg (by rw[w1];decide),if_neg (by rw[w1];decide),if_neg (by rw[w1];decide),if_neg (by rw[w1];decide),if_pos (by rw[w1];decide),rnum_val (n+2) _ false l1,obs]
      dsimp only
      rw[r1,w2,r2,pN,qN]
      rw[h2] at e
      refine ⟨[],?_⟩
      rw[e]
      rfl
    · have htx:txtA a=wArm++32::nt a.2.2.2.2.2.2:=by unfold txtA;rw[if_neg h1,if_neg h5,if_neg h6,if_neg (by omega),if_pos h8]
      obtain ⟨w1,r1⟩:=wd_at (a:=wArm) (t:=nt a.2.2.2.2.2.2) (by decide)
      rw[←htx] at w1 r1
      rw[if_neg (by rw[w1];decide),if_neg (by rw[w1];decide),if_neg (by rw[w1];decide),if_neg (by rw[w1];decide),if_neg (by rw[w1];decide),if_pos (by rw[w1];decide),rnum_val (n+2) _ false l1,obs]
      dsimp only
      rw[r1,w2,r2,pN,qN]
      rw[h8] at e
      refine ⟨[],?_⟩
      rw[e]
      rfl
    · have htx:txtA a=wLoad++32::nt a.2.2.2.2.2.2:=by unfold txtA;rw[if_neg h1,if_neg h5,if_neg h6,if_neg (by omega),if_neg (by omega),if_pos h9]
      obtain ⟨w1,r1⟩:=wd_at (a:=wLoad) (t:=nt a.2.2.2.2.2.2) (by decide)
      rw[←htx] at w1 r1
      rw[if_neg (by rw[w1];decide),if_neg (by rw[w1];decide),if_neg (by rw[w1];decide),if_neg (by rw[w1];decide),if_neg (by rw[w1];decide),if_neg (by rw[w1];decide),if_pos (by rw[w1];decide),rnum_val (n+2) _ false l1,obs]
      dsimp only
      rw[r1,w2,r2,pN,qN]
      rw[h9] at e
      refine ⟨[],?_⟩
      rw[e]
      rfl
  have h0:a.1=3∨a.1=4∨a.1=7:=by unfold okK at hk;rw[if_neg h1,if_neg h5,if_neg h6,if_neg hN] at hk;exact hk
  have htold:told a=(a.1,[],e0,0,0,0,0):=by unfold told;rw[if_neg h1,if_neg h5,if_neg h6,if_neg hN]
  have e:(a.1,(([]:List Lab),(((0:Int),((0:Int),((0:Int),false))),((0:Int),((0:Int),((0:Int),(0:Int)))))))=a:=htold.symm.trans ht
  rcases h0 with h3 | h4 | h7
  · have htx:txtA a=wSweep:=by unfold txtA;rw[if_neg h1,if_neg h5,if_neg h6,if_neg (by omega),if_neg (by omega),if_neg (by omega),if_pos h3]
    obtain ⟨w1,r1⟩:=wd_end (a:=wSweep) (by decide)
    rw[←htx] at w1 r1
    have w1':wd (txtA a)=wSweep:=by rw[w1,htx]
    rw[if_neg (by rw[w1'];decide),if_neg (by rw[w1'];decide),if_neg (by rw[w1'];decide),if_neg (by rw[w1'];decide),if_neg (by rw[w1'];decide),if_neg (by rw[w1'];decide),if_neg (by rw[w1'];decide),if_pos (by rw[w1'];decide)]
    rw[h3] at e
    exact ⟨_,by rw[e]⟩
  · have htx:txtA a=wFlush:=by unfold txtA;rw[if_neg h1,if_neg h5,if_neg h6,if_neg (by omega),if_neg (by omega),if_neg (by omega),if_neg (by omega),if_pos h4]
    obtain ⟨w1,r1⟩:=wd_end (a:=wFlush) (by decide)
    rw[←htx] at w1 r1
    have w1':wd (txtA a)=wFlush:=by rw[w1,htx]
    rw[if_neg (by rw[w1'];decide),if_neg (by rw[w1'];decide),if_neg (by rw[w1'];decide),if_neg (by rw[w1'];decide),if_neg (by rw[w1'];decide),if_neg (by rw[w1'];decide),if_neg (by rw[w1'];decide),if_neg (by rw[w1'];decide),if_pos (by rw[w1'];decide)]
    rw[h4] at e
    exact ⟨_,by rw[e]⟩
  · have htx:txtA a=wDump:=by unfold txtA;rw[if_neg h1,if_neg h5,if_neg h6,if_neg (by omega),if_neg (by omega),if_neg (by omega),if_neg (by omega),if_neg (by omega),if_pos h7]
    obtain ⟨w1,r1⟩:=wd_end (a:=wDump) (by decide)
    rw[←htx] at w1 r1
    have w1':wd (txtA a)=wDump:=by rw[w1,htx]
    rw[if_neg (by rw[w1'];decide),if_neg (by rw[w1'];decide),if_neg (by rw[w1'];decide),if_neg (by rw[w1'];decide),if_neg (by rw[w1'];decide),if_neg (by rw[w1'];decide),if_neg (by rw[w1'];decide),if_neg (by rw[w1'];decide),if_neg (by rw[w1'];decide),if_pos (by rw[w1'];decide)]
    rw[h7] at e
    exact ⟨_,by rw[e]⟩
theorem script_parse (n:Nat) (s:List UInt8) (hs:s.length≤50000) :
    (∀a,ActW a→good a→txtA a=s→script_Parse (n+11) s=some (a,0)) ∧
    ((∀a,ActW a→good a→txtA a≠s)→script_Parse (n+11) s=some (z0A,4)):=by
  constructor
  · rintro a hw g rfl
    rw[script_Parse_eq,tfd,if_neg (by have:=g.2.2;omega)]
    obtain ⟨r,hr⟩:=ract_good (n+1) hw g
    rw[hr,obs]
    dsimp only
    rw[script_line n a hw,obs,if_pos g]
    simp[tif_ite]
  · intro hno
    rw[script_Parse_eq,tfd]
    by_cases hl:(4096:Int)<((s.length:Nat):Int)
    · rw[if_pos hl];rfl
    rw[if_neg hl]
    obtain ⟨a,r,b,h1,hw⟩:=ract_tot (n+1) s hs
    rw[h1,obs]
    dsimp only
    rw[script_line n a hw,obs]
    cases b with
    | true=>rfl
    | false =>
      by_cases g:good a
      · rw[if_pos g]
        have hne:=hno a hw g
        have:(txtA a==s)=false:=by
          cases hq:(txtA a==s) with
          | false=>rfl
          | true=>exact absurd (eq_of_beq hq) hne
        simp only[tif_ite,decide_true,Bool.not_true,Bool.false_eq_true,if_false,this,Bool.not_false,if_true]
        rfl
      · rw[if_neg g];rfl
theorem labs_small_l (n:Nat) (l:List Lab) (hl:l.length≤9223372036854775807):∀(k f i:Nat),40-i=k→i≤40→i≤l.length →
    ∃z:Unit ⊕ Int,l05_Small_l2 n (f+k+1) (l,(l.length:Int),(i:Int),())=some z∧((z = .inl ()∧l.length≤40)∨z = .inr 0):=by
  intro k
  induction k with
  | zero =>
    intro f i h hi hil
    rw[l05_Small_l2_eq]
    simp only[tif_ite,decide_eq_true_eq]
    by_cases h1:(i:Int)<(l.length:Int)
    · have hx:at? l (i:Int)=some l[i]:=by simp[at?]
      rw[if_pos h1,hx,obs,if_pos (by omega)]
      exact ⟨_,rfl,.inr rfl⟩
    · rw[if_neg h1]
      exact ⟨_,rfl,.inl ⟨rfl,by omega⟩⟩
  | succ k ih =>
    intro f i h hi hil
    rw[show f+(k+1)+1=(f+k+1)+1 by omega,l05_Small_l2_eq]
    simp only[tif_ite,decide_eq_true_eq]
    by_cases h1:(i:Int)<(l.length:Int)
    · have hx:at? l (i:Int)=some l[i]:=by simp[at?]
      rw[if_pos h1,hx,obs,if_neg (by omega)]
      by_cases h2:(1000:Int)<((l[i].1.length:Nat):Int)
      · rw[if_pos h2];exact ⟨_,rfl,.inr rfl⟩
      rw[if_neg h2]
      by_cases h3:(1000:Int)<((l[i].2.length:Nat):Int)
      · rw[if_pos h3];exact ⟨_,rfl,.inr rfl⟩
      rw[if_neg h3,w64 (by omega) (by omega),show (i:Int)+1=((i+1:Nat):Int) by omega]
      exact ih f (i+1) (by omega) (by omega) (by omega)
    · rw[if_neg h1]
      exact ⟨_,rfl,.inl ⟨rfl,by omega⟩⟩
theorem labs_small (n:Nat) (l:List Lab) (hl:l.length≤9223372036854775807):l05_Small (n+1) l=some 0∨(l05_Small (n+1) l=some 1∧l.length≤40):=by
  rw[l05_Small_eq]
  obtain ⟨z,h1,h2⟩:=labs_small_l n l hl 40 (loopFuel-41) 0 rfl (by omega) (by omega)
  rw[show loopFuel-41+40+1=loopFuel by unfold loopFuel;omega] at h1
  have h1':l05_Small_l2 n loopFuel (l,(l.length:Int),0,())=some z:=h1
  rw[h1',obs]
  rcases h2 with ⟨rfl,h⟩ | rfl
  · exact .inr ⟨rfl,h⟩
  · exact .inl rfl
theorem actW_wf {a:ActT} (h:Wf tyAct a) (hl:a.2.1.length≤40):ActW a:=by
  obtain ⟨_,_,hT,h4,h5,h6,h7⟩:=h
  obtain ⟨t1,t2,t3,_⟩:=hT
  exact ⟨by omega,⟨t1,t2,t3⟩,h4,h5,h6,h7⟩
theorem act_len {a:ActT} (h:Wf tyAct a):a.2.1.length≤9223372036854775807:=h.2.1.1
def putF:List ActT→List UInt8
  | []=>[]
  | a::l=>txtA a++10::putF l
def allG (l:List ActT):Prop:=∀a∈l,good a
noncomputable instance (l:List ActT):Decidable (allG l):=Classical.propDecidable _
theorem allG_cons {a:ActT} {l:List ActT} (g:good a):allG (a::l)↔allG l:=⟨fun k x hx=>k x (List.mem_cons_of_mem _ hx),fun k x hx=>by
  rcases List.mem_cons.1 hx with rfl | hx
  · exact g
  · exact k x hx⟩
noncomputable def putR (b:List UInt8) (l:List ActT):(List UInt8×Unit) ⊕ (List UInt8×Int):=if allG l then .inl (b++putF l,()) else .inr ([],2)
theorem putR_good {a:ActT} {l:List ActT} (g:good a) (b:List UInt8):putR b (a::l)=putR (b++txtA a++[10]) l:=by
  unfold putR
  by_cases k:allG l
  · rw[if_pos k,if_pos ((allG_cons g).2 k)];simp[putF]
  · rw[if_neg k,if_neg (fun q=>k ((allG_cons g).1 q))]
theorem putR_bad {a:ActT} {l:List ActT} (g:¬good a) (b:List UInt8):putR b (a::l) = .inr ([],2):=if_neg (fun k=>g (k a List.mem_cons_self))
theorem putR_nil (b:List UInt8):putR b [] = .inl (b,()):=by
  unfold putR
  rw[if_pos (show allG [] from fun a h=>by cases h)]
  simp[putF]
theorem put_l (n:Nat) (l:List ActT) (hl:l.length≤5000) (hw:∀a∈l,ActW a):∀(rest pre:List ActT) (f:Nat) (b:List UInt8) (i:Int),l=pre++rest→i=pre.length→b.length≤4097*pre.length →
    script_Put_l5 (n+10) (f+rest.length+1) (b,l,(l.length:Int),i,())=some (putR b rest):=by
  intro rest
  induction rest with
  | nil =>
    intro pre f b i h hi hb
    rw[script_Put_l5_eq,putR_nil]
    simp only[tfd,if_neg (idxe h hi rfl)]
  | cons a rest ih =>
    intro pre f b i h hi hb
    have hlen:=congrArg List.length h
    simp at hlen
    have ha:=hw a (by rw[h];simp)
    rw[show f+(a::rest).length+1=(f+rest.length+1)+1 by simp;omega,script_Put_l5_eq]
    simp only[tfd,if_pos (idx h hi rfl)]
    rw[at_mid h hi,obs,idxw h hi (by omega),script_line n a ha,obs]
    by_cases g:good a
    · have hgl:=g.2.2
      have e10:(10:Int)=(((10:UInt8).toNat:Nat):Int):=rfl
      rw[if_pos g,putR_good g]
      simp only[decide_true,Bool.not_true,tff]
      rw[wst (n+9) b _ (by omega),obs,wb (n+9) _ e10 (by simp;omega),obs]
      exact ih (pre++[a]) f (b++txtA a++[10]) (i+1) (idxl h) (idxs hi) (by simp;omega)
    · rw[if_neg g,putR_bad g]
      rfl
theorem split10:∀s:List UInt8,(10:UInt8) ∉ s∨∃a t,s=a++10::t∧(10:UInt8) ∉ a
  | [] => .inl (by simp)
  | c::s=>by
    by_cases hc:c=10
    · exact .inr ⟨[],s,by rw[hc];rfl,by simp⟩
    · rcases split10 s with h | ⟨a,t,h1,h2⟩
      · exact .inl (by simp;exact ⟨fun e=>hc e.symm,h⟩)
      · exact .inr ⟨c::a,t,by rw[h1];rfl,by simp;exact ⟨fun e=>hc e.symm,h2⟩⟩
theorem actW0b:ActW z0A:=by
  have z:I64 0:=by unfold I64;omega
  exact ⟨by simp[z0A],⟨z,by simp[z0A,e0],z⟩,z,z,z,z⟩
theorem parse_one (n:Nat) (s:List UInt8) (hs:s.length≤50000):∃p:ActT×Int,script_Parse (n+11) s=some p∧ActW p.1∧((p.2=0∧good p.1∧txtA p.1=s)∨p=(z0A,4)):=by
  by_cases h:∃a,ActW a∧good a∧txtA a=s
  · obtain ⟨a,h1,h2,h3⟩:=h
    exact ⟨(a,0),(script_parse n s hs).1 a h1 h2 h3,h1,.inl ⟨rfl,h2,h3⟩⟩
  · have hno:∀a,ActW a→good a→txtA a≠s:=fun a h1 h2 h3=>h ⟨a,h1,h2,h3⟩
    exact ⟨(z0A,4),(script_parse n s hs).2 hno,actW0b,.inr rfl⟩
theorem putF_app:∀l m:List ActT,putF (l++m)=putF l++putF m
  | [],m=>rfl
  | a::l,m=>by simp[putF,putF_app l m]
structure GotIt (T:List UInt8) (R:List ActT×(Int×Int)):Prop where
  is:(R.2.2=0∧R.2.1=0∧R.1.length≤4096∧(∀a∈R.1,ActW a)∧(∀a∈R.1,good a)∧putF R.1=T)∨(R.2.2=4∧R.1=[]∧1≤R.2.1)
theorem get_one (n:Nat) (T:List UInt8) (hT:T.length≤40000):∀(k:Nat) (s pre:List UInt8) (f1:Nat) (out:List ActT),s.length≤k→s.length≤f1→T=pre++s→out.length≤4096→(∀a∈out,ActW a)→(∀a∈out,good a)→putF out=pre →
    ∃R:List ActT×(Int×Int),obind (script_Get_l2 (n+11) (f1+1) (s,out,())) (fun r0=>selim (fun y1=>some (y1.1,((0:Int),(0:Int)))) (fun z2=>some z2) r0)=some R∧GotIt T R:=by
  intro k
  induction k with
  | zero =>
    intro s pre f1 out hs hf1 h ho hout hg hp
    have:s=[]:=List.eq_nil_of_length_eq_zero (by omega)
    subst this
    rw[script_Get_l2_eq]
    simp only[tfd]
    exact ⟨(out,0,0),rfl,⟨.inl ⟨rfl,rfl,ho,hout,hg,by rw[h,hp];simp⟩⟩⟩
  | succ k ih =>
    intro s pre f1 out hs hf1 h ho hout hg hp
    have hlen:=congrArg List.length h
    simp at hlen
    by_cases hs0:s=[]
    · subst hs0
      rw[script_Get_l2_eq]
      simp only[tfd]
      exact ⟨(out,0,0),rfl,⟨.inl ⟨rfl,rfl,ho,hout,hg,by rw[h,hp];simp⟩⟩⟩
    have hsl:0<s.length:=List.length_pos_iff.2 hs0
    have hne:(s==[])=false:=by
      cases s with
      | nil=>exact absurd rfl hs0
      | cons _ _=>rfl
    have bad:GotIt T ([],IntKind.wrap .i64 ((((List.length out):Nat):Int)+1),4):=⟨.inr ⟨rfl,rfl,by
      show 1≤IntKind.wrap .i64 ((((List.length out):Nat):Int)+1)
      rw[w64 (by omega) (by omega)];omega⟩⟩
    rw[script_Get_l2_eq,hne]
    simp only[Bool.not_false,tft]
    rw[cut_val (n+8) s [10] (by omega) (by simp) (by simp),obs]
    rcases split10 s with hno | ⟨a,t,hat,ha⟩
    · rw[cutV_no hno]
      obtain ⟨p,p1,_,_⟩:=parse_one n s (by omega)
      rw[p1,obs]
      simp only[tif_ite]
      refine ⟨_,?_,bad⟩
      by_cases hp:(!(decide (p.2=0)))=true
      · rw[if_pos hp];rfl
      · rw[if_neg hp,if_pos (by rfl)];rfl
    · have hcut:cutV s [10]=(a,t,true):=by
        rw[hat,show a++10::t=a++([10]++t) by simp];exact cutV_at ha
      have hsl2:=congrArg List.length hat
      simp at hsl2
      rw[hcut]
      obtain ⟨p,p1,p3,p4⟩:=parse_one n a (by omega)
      dsimp only
      rw[p1,obs]
      simp only[tif_ite,decide_eq_true_eq]
      by_cases hq:(!(decide (p.2=0)))=true
      · rw[if_pos hq]
        exact ⟨_,rfl,bad⟩
      rw[if_neg hq,if_neg (by decide)]
      have hp2:p.2=0:=by simpa using hq
      rcases p4 with ⟨_,p5,p6⟩ | p4
      rotate_left
      · rw[p4] at hp2;exact absurd hp2 (by decide)
      by_cases h4:((out.length:Nat):Int)=4096
      · rw[if_pos h4]
        exact ⟨_,rfl,bad⟩
      rw[if_neg h4,if_pos (by omega)]
      obtain ⟨f1,rfl⟩:∃g,f1=g+1:=⟨f1-1,by omega⟩
      have mem:∀ {P:ActT→Prop},(∀a∈out,P a)→P p.1→∀x∈out++[p.1],P x:=fun h1 h2 x hx=>by
        rcases List.mem_append.1 hx with hx | hx
        · exact h1 x hx
        · rw[List.mem_singleton.1 hx];exact h2
      exact ih t (pre++(a++[10])) f1 (out++[p.1]) (by omega) (by omega) (by rw[h,hat];simp) (by simp;omega) (mem hout p3) (mem hg p5) (by rw[putF_app,hp];simp[putF,p6])
theorem get_val (n:Nat) (T:List UInt8) (hT:T.length≤40000):∃R:List ActT×(Int×Int),script_Get (n+12) T=some R∧GotIt T R:=by
  rw[script_Get_eq]
  have:=get_one n T hT T.length T [] (loopFuel-1) [] (Nat.le_refl _) (by unfold loopFuel;omega) rfl (by simp) (fun a ha=>by cases ha) (fun a ha=>by cases ha) rfl
  rw[show loopFuel-1+1=loopFuel by unfold loopFuel;omega] at this
  exact this
theorem put_val (n:Nat) (l:List ActT) (hl:l.length≤4096) (hw:∀a∈l,ActW a) (hg:∀a∈l,good a):script_Put (n+11) l=some (putF l,0):=by
  rw[script_Put_eq,tfd,if_neg (by omega)]
  have e1:=put_l n l (by omega) hw l [] (loopFuel-l.length-1) [] 0 rfl rfl (by simp)
  rw[←lfu (by omega)] at e1
  rw[e1,obs]
  unfold putR
  rw[if_pos (show allG l from hg),selim_inl,strings_Builder_String_eq,obs]
  simp
end Go.Proofs.YtgcaeappeolhjaaDoor
namespace Go.Proofs.YtgcaeappeolhjaaDoor
open Go.Flat
theorem ob {α β:Type} {o:Option α} {x:α} {f:α→Option β} {r:Option β} (h:o=some x) (k:f x=r):obind o f=r:=by rw[h];exact k
theorem tt {α:Type} {b:Bool} {x y r:α} (h:b=true) (k:x=r):tif b x y=r:=by rw[h];exact k
end Go.Proofs.YtgcaeappeolhjaaDoor
namespace Go.Proofs.YtgcaeappeolhjaaDoor
open Go.Flat
set_option linter.unusedVariables false
theorem lvl29_lives_eq (n:Nat)  : l29_lives (n+1)  =
  obind (script_Put n (((1:Int),(((((97:UInt8)::[]),((120:UInt8)::((32:UInt8)::((121:UInt8)::[]))))::[]),(((7:Int),((18446744073709551615:Int),((5:Int),false))),((0:Int),((0:Int),((0:Int),(0:Int)))))))::(((1:Int),(((((97:UInt8)::[]),((120:UInt8)::((32:UInt8)::((121:UInt8)::[]))))::[]),(((8:Int),((0:Int),((0:Int),true))),((0:Int),((0:Int),((0:Int),(0:Int)))))))::(((5:Int),(((((97:UInt8)::[]),((120:UInt8)::((32:UInt8)::((121:UInt8)::[]))))::[]),(((0:Int),((0:Int),((0:Int),false))),((2:Int),((0:Int),((60:Int),(0:Int)))))))::(((3:Int),([],(((0:Int),((0:Int),((0:Int),false))),((0:Int),((0:Int),((0:Int),(0:Int)))))))::[]))))) fun r0 =>
  obind (script_Get n r0.1) fun r1 =>
  tif ((decide (((List.length r0.1)+8)≤9223372036854775807))) (
  obind (script_Get n (r0.1++((116:UInt8)::((105:UInt8)::((99:UInt8)::((107:UInt8)::((32:UInt8)::((48:UInt8)::((53:UInt8)::((10:UInt8)::[])))))))))) fun r2 =>
  obind (script_Parse n ((115:UInt8)::((119:UInt8)::((101:UInt8)::((101:UInt8)::((112:UInt8)::((32:UInt8)::[]))))))) fun r3 =>
  obind (script_Line n ((2:Int),([],(((0:Int),((0:Int),((0:Int),false))),((0:Int),((1:Int),((0:Int),(0:Int)))))))) fun r4 =>
  tif ((r0.1==(((119:UInt8)::((114:UInt8)::((105:UInt8)::((116:UInt8)::((101:UInt8)::((32:UInt8)::((49:UInt8)::((56:UInt8)::((52:UInt8)::((52:UInt8)::((54:UInt8)::((55:UInt8)::((52:UInt8)::((52:UInt8)::((48:UInt8)::((55:UInt8)::((51:UInt8)::((55:UInt8)::((48:UInt8)::((57:UInt8)::((53:UInt8)::((53:UInt8)::((49:UInt8)::((54:UInt8)::((49:UInt8)::((53:UInt8)::((32:UInt8)::((55:UInt8)::((32:UInt8)::((53:UInt8)::((32:UInt8)::((123:UInt8)::((97:UInt8)::((61:UInt8)::((34:UInt8)::((120:UInt8)::((32:UInt8)::((121:UInt8)::((34:UInt8)::((125:UInt8)::((10:UInt8)::((115:UInt8)::((116:UInt8)::[])))))))))))))))))))))))))))))))))))))))))))++((97:UInt8)::((108:UInt8)::((101:UInt8)::((32:UInt8)::((56:UInt8)::((32:UInt8)::((123:UInt8)::((97:UInt8)::((61:UInt8)::((34:UInt8)::((120:UInt8)::((32:UInt8)::((121:UInt8)::((34:UInt8)::((125:UInt8)::((10:UInt8)::((97:UInt8)::((115:UInt8)::((107:UInt8)::((32:UInt8)::((50:UInt8)::((32:UInt8)::((48:UInt8)::((32:UInt8)::((54:UInt8)::((48:UInt8)::((32:UInt8)::((123:UInt8)::((97:UInt8)::((61:UInt8)::((34:UInt8)::((120:UInt8)::((32:UInt8)::((121:UInt8)::((34:UInt8)::((125:UInt8)::((10:UInt8)::((115:UInt8)::((119:UInt8)::((101:UInt8)::((101:UInt8)::((112:UInt8)::((10:UInt8)::[])))))))))))))))))))))))))))))))))))))))))))))) (
  tif ((decide (r0.2=(0:Int)))) (
  tif ((decide ((((List.length r1.1):Nat):Int)=(4:Int)))) (
  obind (at? r1.1 (0:Int)) fun r5 =>
  obind (script_Same n r5 ((1:Int),(((((97:UInt8)::[]),((120:UInt8)::((32:UInt8)::((121:UInt8)::[]))))::[]),(((7:Int),((18446744073709551615:Int),((5:Int),false))),((0:Int),((0:Int),((0:Int),(0:Int)))))))) fun r6 =>
  tif (r6) (
  obind (at? r1.1 (1:Int)) fun r7 =>
  obind (script_Same n r7 ((1:Int),(((((97:UInt8)::[]),((120:UInt8)::((32:UInt8)::((121:UInt8)::[]))))::[]),(((8:Int),((0:Int),((0:Int),true))),((0:Int),((0:Int),((0:Int),(0:Int)))))))) fun r8 =>
  tif (r8) (
  obind (at? r1.1 (2:Int)) fun r9 =>
  obind (script_Same n r9 ((5:Int),(((((97:UInt8)::[]),((120:UInt8)::((32:UInt8)::((121:UInt8)::[]))))::[]),(((0:Int),((0:Int),((0:Int),false))),((2:Int),((0:Int),((60:Int),(0:Int)))))))) fun r10 =>
  tif (r10) (
  tif ((decide (r1.2.1=(0:Int)))) (
  tif ((decide (r1.2.2=(0:Int)))) (
  tif ((decide (r2.2.1=(5:Int)))) (
  tif ((decide (r2.2.2=(4:Int)))) (
  tif ((decide (r3.2=(4:Int)))) (
  tif ((decide (r4.2=(2:Int)))) (
  obind (script_Same n ((1:Int),(((((97:UInt8)::[]),((120:UInt8)::((32:UInt8)::((121:UInt8)::[]))))::[]),(((7:Int),((18446744073709551615:Int),((5:Int),false))),((0:Int),((0:Int),((0:Int),(0:Int))))))) ((1:Int),(((((97:UInt8)::[]),((120:UInt8)::((32:UInt8)::((121:UInt8)::[]))))::[]),(((8:Int),((0:Int),((0:Int),true))),((0:Int),((0:Int),((0:Int),(0:Int)))))))) fun r11 =>
  some (!r11)) (
  some false)) (
  some false)) (
  some false)) (
  some false)) (
  some false)) (
  some false)) (
  some false)) (
  some false)) (
  some false)) (
  some false)) (
  some false)) (
  some false)) (
  none):=by kernel_rfl
theorem lvl29_lives_0 (n:Nat):script_Put (n+39) [(1,([([97],[120,32,121])],((7,(18446744073709551615,(5,false))),(0,(0,(0,0)))))),(1,([([97],[120,32,121])],((8,(0,(0,true))),(0,(0,(0,0)))))),(5,([([97],[120,32,121])],((0,(0,(0,false))),(2,(0,(60,0)))))),(3,([],((0,(0,(0,false))),(0,(0,(0,0))))))]=some ([119,114,105,116,101,32,49,56,52,52,54,55,52,52,48,55,51,55,48,57,53,53,49,54,49,53,32,55,32,53,32,123,97,61,34,120,32,121,34,125,10,115,116,97,108,101,32,56,32,123,97,61,34,120,32,121,34,125,10,97,115,107,32,50,32,48,32,54,48,32,123,97,61,34,120,32,121,34,125,10,115,119,101,101,112,10],0):=by kernel_rfl
theorem lvl29_lives_1 (n:Nat):script_Get (n+39) [119,114,105,116,101,32,49,56,52,52,54,55,52,52,48,55,51,55,48,57,53,53,49,54,49,53,32,55,32,53,32,123,97,61,34,120,32,121,34,125,10,115,116,97,108,101,32,56,32,123,97,61,34,120,32,121,34,125,10,97,115,107,32,50,32,48,32,54,48,32,123,97,61,34,120,32,121,34,125,10,115,119,101,101,112,10]=some ([(1,([([97],[120,32,121])],((7,(18446744073709551615,(5,false))),(0,(0,(0,0)))))),(1,([([97],[120,32,121])],((8,(0,(0,true))),(0,(0,(0,0)))))),(5,([([97],[120,32,121])],((0,(0,(0,false))),(2,(0,(60,0)))))),(3,([],((0,(0,(0,false))),(0,(0,(0,0))))))],(0,0)):=by kernel_rfl
theorem lvl29_lives_2 (n:Nat):script_Get (n+39) [119,114,105,116,101,32,49,56,52,52,54,55,52,52,48,55,51,55,48,57,53,53,49,54,49,53,32,55,32,53,32,123,97,61,34,120,32,121,34,125,10,115,116,97,108,101,32,56,32,123,97,61,34,120,32,121,34,125,10,97,115,107,32,50,32,48,32,54,48,32,123,97,61,34,120,32,121,34,125,10,115,119,101,101,112,10,116,105,99,107,32,48,53,10]=some ([],(5,4)):=by kernel_rfl
theorem lvl29_lives_3 (n:Nat):script_Parse (n+39) [115,119,101,101,112,32]=some ((0,([],((0,(0,(0,false))),(0,(0,(0,0)))))),4):=by kernel_rfl
theorem lvl29_lives_4 (n:Nat):script_Line (n+39) (2,([],((0,(0,(0,false))),(0,(1,(0,0))))))=some ([],2):=by kernel_rfl
theorem lvl29_lives_5 (n:Nat):script_Same (n+39) (1,([([97],[120,32,121])],((7,(18446744073709551615,(5,false))),(0,(0,(0,0)))))) (1,([([97],[120,32,121])],((7,(18446744073709551615,(5,false))),(0,(0,(0,0))))))=some true:=by kernel_rfl
theorem lvl29_lives_6 (n:Nat):script_Same (n+39) (1,([([97],[120,32,121])],((8,(0,(0,true))),(0,(0,(0,0)))))) (1,([([97],[120,32,121])],((8,(0,(0,true))),(0,(0,(0,0))))))=some true:=by kernel_rfl
theorem lvl29_lives_7 (n:Nat):script_Same (n+39) (5,([([97],[120,32,121])],((0,(0,(0,false))),(2,(0,(60,0)))))) (5,([([97],[120,32,121])],((0,(0,(0,false))),(2,(0,(60,0))))))=some true:=by kernel_rfl
theorem lvl29_lives_8 (n:Nat):script_Same (n+39) (1,([([97],[120,32,121])],((7,(18446744073709551615,(5,false))),(0,(0,(0,0)))))) (1,([([97],[120,32,121])],((8,(0,(0,true))),(0,(0,(0,0))))))=some false:=by kernel_rfl
theorem l29_lives_true (n:Nat):l29_lives (n+40)=some true:=by
  rw[lvl29_lives_eq]
  refine ob (lvl29_lives_0 n) ?_
  refine ob (lvl29_lives_1 n) ?_
  refine tt (by kernel_rfl) ?_
  refine ob (lvl29_lives_2 n) ?_
  refine ob (lvl29_lives_3 n) ?_
  refine ob (lvl29_lives_4 n) ?_
  refine tt (by kernel_rfl) ?_
  refine tt (by kernel_rfl) ?_
  refine tt (by kernel_rfl) ?_
  refine ob (x:=(1,([([97],[120,32,121])],((7,(18446744073709551615,(5,false))),(0,(0,(0,0))))))) (by kernel_rfl) ?_
  refine ob (lvl29_lives_5 n) ?_
  refine tt (by kernel_rfl) ?_
  refine ob (x:=(1,([([97],[120,32,121])],((8,(0,(0,true))),(0,(0,(0,0))))))) (by kernel_rfl) ?_
  refine ob (lvl29_lives_6 n) ?_
  refine tt (by kernel_rfl) ?_
  refine ob (x:=(5,([([97],[120,32,121])],((0,(0,(0,false))),(2,(0,(60,0))))))) (by kernel_rfl) ?_
  refine ob (lvl29_lives_7 n) ?_
  refine tt (by kernel_rfl) ?_
  refine tt (by kernel_rfl) ?_
  refine tt (by kernel_rfl) ?_
  refine tt (by kernel_rfl) ?_
  refine tt (by kernel_rfl) ?_
  refine tt (by kernel_rfl) ?_
  refine tt (by kernel_rfl) ?_
  refine ob (lvl29_lives_8 n) ?_
  kernel_rfl
end Go.Proofs.YtgcaeappeolhjaaDoor
namespace Go.Proofs.YtgcaeappeolhjaaDoor
open Go.Flat Go.Plim
set_option linter.unusedVariables false
set_option linter.unusedSimpArgs false
theorem back_text (n:Nat) (s:List UInt8) (hs:s.length≤32768):obind (script_Get (n+39) s) (fun r5 =>
  tif ((!(decide (r5.2.2=(0:Int))))) (
  tif ((decide ((((List.length r5.1):Nat):Int)=(0:Int)))) (
  some (decide ((1:Int)≤r5.2.1))) (
  some false)) (
  obind (script_Put (n+39) r5.1) fun r6 =>
  tif ((decide (r6.2=(0:Int)))) (
  tif ((r6.1==s)) (
  some (decide (r5.2.1=(0:Int)))) (
  some false)) (
  some false)))=some true:=by
  obtain ⟨R,R1,R2⟩:=get_val (n+27) s (by omega)
  rw[R1,obs]
  rcases R2.is with ⟨h1,h2,h3,h4,h5,h6⟩ | ⟨h1,h2,h3⟩
  · rw[h1,put_val (n+28) R.1 h3 h4 h5,obs,h2,h6]
    simp[tif_ite]
  · rw[h1,h2]
    simp[tif_ite,h3]
theorem scriptBack_true (n:Nat) (hlv:l29_lives (n+39)=some true) (a:ActT) (s:List UInt8) (ha:Wf tyAct a) (hs:Wf .str s):l29_ScriptBack (n+40) a s=some true:=by
  rw[l29_ScriptBack_eq,hlv,obs]
  simp only[Bool.not_true,tff]
  rcases labs_small (n+38) a.2.1 (act_len ha) with h | ⟨h,h2⟩
  · rw[h,obs,tfd,if_pos rfl]
  rw[h,obs,tfd,if_neg (by decide),tfd]
  by_cases hln:(32768:Int)<((s.length:Nat):Int)
  · rw[if_pos hln]
  rw[if_neg hln]
  have hw:=actW_wf ha h2
  have hB:=back_text n s (by omega)
  rw[script_line (n+29) a hw,obs]
  by_cases g:good a
  · rw[if_pos g]
    dsimp only
    rw[(script_parse (n+28) (txtA a) (by have:=g.2.2;omega)).1 a hw g rfl,obs]
    dsimp only
    rw[tfd,if_pos rfl,r29_same (n+37) a a (by omega),obs,hB]
    simp[tif_ite]
  · rw[if_neg g]
    dsimp only
    obtain ⟨p,p1,_,_⟩:=parse_one (n+28) [] (by simp)
    rw[p1,obs,tfd,if_neg (by decide),hB]
theorem scriptBack_law (a:ActT) (s:List UInt8) (ha:Wf tyAct a) (hs:Wf .str s):l29_ScriptBack 41 a s=some true:=scriptBack_true 1 (l29_lives_true 0) a s ha hs
end Go.Proofs.YtgcaeappeolhjaaDoor
