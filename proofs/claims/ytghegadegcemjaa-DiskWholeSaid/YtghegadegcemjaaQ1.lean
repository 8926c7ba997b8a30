/-
  Plain proofs about the functions of this seat, part 1 of 1.
-/
import Derived.Test.YtghegadegcemjaaTr
import Derived.Test.YtghegadegcemjaaFlatM3
import Derived.KernelRfl
import Derived.IntWalk
namespace Go.Proofs.Ytghegadegcemjaa
open Go.Flat
set_option linter.unusedVariables false
set_option linter.unusedSimpArgs false
abbrev Sec:=List UInt8
abbrev Chg:=Int×Sec
abbrev Dsk:=List Sec×(List Chg×(Int×Bool))
theorem kat_mid {α:Type} {l pre rest:List α} {x:α} {i:Int} (h:l=pre++x::rest) (hi:i=pre.length):at? l i=some x:=by
  subst h hi;simp[at?]
theorem kget_mid {α:Type} {l pre rest:List α} {x:α} {i:Int} (h:l=pre++x::rest) (hi:i=pre.length):l[i.toNat]? = some x:=by
  subst h hi;simp
def FitC (m:Nat) (z:Chg):Prop:=0≤z.1∧z.1<m∧z.2.length=512
def putAll (S:List Sec) (l:List Chg):List Sec:=l.foldl (fun S z=>S.set z.1.toNat z.2) S
theorem putAll_length (l:List Chg):∀S,(putAll S l).length=S.length:=by
  induction l with
  | nil=>intro S;rfl
  | cons z l ih=>intro S;simp only[putAll,List.foldl_cons] at ih ⊢;rw[ih];simp
def keepF (k:Int→Bool):Int→List Chg→List Chg
  | _,[]=>[]
  | i,z::r=>if k i=true then z::keepF k (i+1) r else keepF k (i+1) r
theorem keepF_all (l:List Chg):∀i,keepF (fun _=>true) i l=l:=by
  induction l with
  | nil=>intro i;rfl
  | cons z r ih=>intro i;simp[keepF,ih]
theorem keepF_mem {k:Int→Bool} {z:Chg}:∀(l:List Chg) (i:Int),z∈keepF k i l→z∈l
  | [],_,h=>h
  | y::r,i,h=>by
    unfold keepF at h
    split at h
    · rcases List.mem_cons.1 h with h | h
      · exact h ▸ List.mem_cons_self
      · exact List.mem_cons_of_mem _ (keepF_mem r _ h)
    · exact List.mem_cons_of_mem _ (keepF_mem r _ h)
structure DkOk (d:Dsk):Prop where
  len:d.1.length≤16777216
  pen:d.2.1.length≤1000000000000
  fit:∀z∈d.2.1,FitC d.1.length z
theorem has_val (n:Nat) (d:Dsk) (i:Int):disk_Disk_has (n+1) d i=some (decide (0≤i∧i<d.1.length),d):=by
  rw[disk_Disk_has_eq]
  simp only[tfd]
  by_cases h:0≤i
  · rw[if_pos h];simp[h]
  · rw[if_neg h];simp[h]
def stepD (d:Dsk):Int×Dsk :=
  if d.2.2.2=true then (14,d) else if d.2.2.1=1 then (14,d.1,d.2.1,0,true) else if 1<d.2.2.1 then (0,d.1,d.2.1,d.2.2.1-1,d.2.2.2) else (0,d)
theorem step_val (n:Nat) (d:Dsk) (h:d.2.2.1≤9223372036854775807):disk_Disk_step (n+1) d=some (stepD d):=by
  rw[disk_Disk_step_eq]
  unfold stepD
  simp only[tif_ite,decide_eq_true_eq]
  by_cases h1:d.2.2.2=true
  · rw[if_pos h1,if_pos h1]
  rw[if_neg h1,if_neg h1]
  by_cases h2:d.2.2.1=1
  · rw[if_pos h2,if_pos h2]
  rw[if_neg h2,if_neg h2]
  by_cases h3:1<d.2.2.1
  · rw[if_pos h3,if_pos h3,w64 (by omega) (by omega)]
  · rw[if_neg h3,if_neg h3]
def writeD (d:Dsk) (i:Int) (s:Sec):Int×Dsk :=
  if 0≤i∧i<d.1.length∧s.length=512 then
    if (stepD d).1=0 then (0,(stepD d).2.1,(stepD d).2.2.1++[(i,s)],(stepD d).2.2.2) else stepD d
  else (1,d)
theorem stepD_same (d:Dsk):(stepD d).2.1=d.1∧(stepD d).2.2.1=d.2.1:=by
  unfold stepD
  split
  · exact ⟨rfl,rfl⟩
  split
  · exact ⟨rfl,rfl⟩
  split<;>exact ⟨rfl,rfl⟩
theorem write_val (n:Nat) (d:Dsk) (i:Int) (s:Sec) (h:d.2.2.1≤9223372036854775807) (hp:d.2.1.length≤1000000000000):disk_Disk_Write (n+2) d i s=some (writeD d i s):=by
  rw[disk_Disk_Write_eq,has_val,obs]
  unfold writeD
  by_cases h1:0≤i∧i<(d.1.length:Int)
  · by_cases h2:s.length=512
    · rw[if_pos ⟨h1.1,h1.2,h2⟩]
      have e2:decide (((s.length:Nat):Int)=512)=true:=by simp[h2]
      rw[decide_eq_true h1,e2]
      simp only[tif_ite,Bool.not_true,Bool.false_eq_true,if_false]
      rw[step_val n d h,obs]
      by_cases h3:(stepD d).1=0
      · rw[if_pos (by simpa using h3),if_pos h3]
        have hl:(stepD d).2.2.1.length=d.2.1.length:=by rw[(stepD_same d).2]
        rw[if_pos (by simp;omega),h3]
      · rw[if_neg (by simpa using h3),if_neg h3]
    · rw[if_neg (fun q=>h2 q.2.2)]
      have e2:decide (((s.length:Nat):Int)=512)=false:=by simp;omega
      rw[decide_eq_true h1,e2]
      rfl
  · rw[if_neg (fun q=>h1 ⟨q.1,q.2.1⟩),decide_eq_false h1]
    rfl
theorem keep_loop (n:Nat) {is:Int×Unit→Option Bool} {k:Int→Bool} (l:List Chg) (hl:l.length≤1000000000000):∀(rest pre:List Chg) (f:Nat) (d:Dsk) (c i:Int),(∀j:Int,0≤j→j<l.length→is (j,())=some (k j))→d.2.1=l→l=pre++rest→i=pre.length→(∀z∈rest,FitC d.1.length z)→0≤c→c≤pre.length →
    disk_Disk_keep_l3 n (f+rest.length+1) (d,is,c,(l.length:Int),i,())=some (.inl ((putAll d.1 (keepF k i rest),d.2),(c+(keepF k i rest).length,()))):=by
  intro rest
  induction rest with
  | nil =>
    intro pre f d c i his hd h hi hf hc0 hc
    rw[disk_Disk_keep_l3_eq]
    have h1:¬(i<(l.length:Int)):=by have:=congrArg List.length h;simp at this;omega
    simp only[tfd,if_neg h1]
    simp[keepF,putAll]
  | cons z rest ih =>
    intro pre f d c i his hd h hi hf hc0 hc
    have hlen:=congrArg List.length h
    simp at hlen
    rw[show f+(z::rest).length+1=(f+rest.length+1)+1 by simp;omega,disk_Disk_keep_l3_eq]
    have h1:i<(l.length:Int):=by omega
    simp only[tfd,if_pos h1,hd]
    rw[kat_mid h hi,obs,kget_mid h hi,obs,his i (by omega) h1,obs]
    have hz:=hf z List.mem_cons_self
    have hnext:i+1=((pre++[z]).length:Int):=by simp;omega
    rw[w64 (x:=i+1) (by omega) (by omega)]
    by_cases hk:k i=true
    · rw[hk]
      simp only[tif_ite,if_true]
      have ha:∃v,d.1[z.1.toNat]? = some v:=⟨_,List.getElem?_eq_getElem (by have:=hz.1;have:=hz.2.1;omega)⟩
      obtain ⟨v,hv⟩:=ha
      have hat:at? d.1 z.1=some v:=by
        simp[at?,hz.1,hv]
      rw[hat,obs,hv,obs,w64 (x:=c+1) (by omega) (by omega)]
      have:=ih (pre++[z]) f (d.1.set z.1.toNat z.2,d.2) (c+1) (i+1) his hd (by rw[h];simp) hnext (fun y hy=>by simpa using hf y (List.mem_cons_of_mem _ hy)) (by omega) (by simp;omega)
      rw[this]
      have hkf:keepF k i (z::rest)=z::keepF k (i+1) rest:=by rw[keepF,if_pos hk]
      rw[hkf]
      simp only[putAll,List.foldl_cons,List.length_cons]
      congr 4
      push_cast
      omega
    · have hk':k i=false:=by simpa using hk
      rw[hk']
      simp only[tif_ite,Bool.false_eq_true,if_false]
      have:=ih (pre++[z]) f d c (i+1) his hd (by rw[h];simp) hnext (fun y hy=>hf y (List.mem_cons_of_mem _ hy)) hc0 (by simp;omega)
      rw[this]
      have hkf:keepF k i (z::rest)=keepF k (i+1) rest:=by rw[keepF,if_neg hk]
      rw[hkf]
def keepD (d:Dsk) (k:Int→Bool):Int×Dsk:=(((keepF k 0 d.2.1).length:Int),putAll d.1 (keepF k 0 d.2.1),[],d.2.2)
theorem keep_val (n:Nat) (d:Dsk) {is:Int×Unit→Option Bool} {k:Int→Bool} (h:DkOk d) (his:∀j:Int,0≤j→j<d.2.1.length→is (j,())=some (k j)):disk_Disk_keep (n+1) d is=some (keepD d k):=by
  rw[disk_Disk_keep_eq]
  have hfu:(loopFuel-d.2.1.length-1)+d.2.1.length+1=loopFuel:=by
    have:=h.pen
    unfold loopFuel;omega
  have:=keep_loop n d.2.1 h.pen d.2.1 [] (loopFuel-d.2.1.length-1) d 0 0 his rfl rfl rfl h.fit (Int.le_refl _) (by simp)
  rw[hfu] at this
  rw[this,obs,selim_inl]
  simp[keepD]
def syncD (d:Dsk):Int×Dsk:=if (stepD d).1=0 then (0,(keepD (stepD d).2 fun _=>true).2) else stepD d
theorem DkOk.step {d:Dsk} (h:DkOk d):DkOk (stepD d).2:=by
  obtain ⟨e1,e2⟩:=stepD_same d
  exact ⟨by rw[e1];exact h.len,by rw[e2];exact h.pen,by rw[e1,e2];exact h.fit⟩
theorem sync_val (n:Nat) (d:Dsk) (h:DkOk d) (ha:d.2.2.1≤9223372036854775807):disk_Disk_Sync (n+2) d=some (syncD d):=by
  rw[disk_Disk_Sync_eq,step_val n d ha,obs]
  unfold syncD
  by_cases h1:(stepD d).1=0
  · simp only[tfd,if_pos h1]
    rw[keep_val n (stepD d).2 (is:=fun y1=>disk_Disk_Sync_1 (n+1) y1.1) h.step (k:=fun _=>true) (fun j _ _=>disk_Disk_Sync_1_eq n j),obs,h1]
  · simp only[tfd,if_neg h1]
def upK (keep:List Bool) (j:Int):Bool:=decide (j<keep.length)&&(keep[j.toNat]?.getD false)
def upD (d:Dsk) (keep:List Bool):Int×Dsk:=keepD (d.1,d.2.1,0,false) (upK keep)
theorem up_val (n:Nat) (d:Dsk) (keep:List Bool) (h:DkOk d):disk_Disk_Up (n+2) d keep=some (upD d keep):=by
  rw[disk_Disk_Up_eq]
  have h':DkOk (d.1,d.2.1,(0:Int),false):=⟨h.len,h.pen,h.fit⟩
  rw[keep_val n (d.1,d.2.1,(0:Int),false) (is:=fun y0=>disk_Disk_Up_1 (n+1) y0.1 keep) h' (k:=upK keep) (fun j h0 h1 => ?_),obs]
  · rfl
  · rw[disk_Disk_Up_1_eq]
    unfold upK
    by_cases hj:j<(keep.length:Int)
    · obtain ⟨v,hv⟩:∃v,keep[j.toNat]? = some v:=⟨_,List.getElem?_eq_getElem (by omega)⟩
      simp[tfd,hj,at?,h0,hv]
    · simp[tfd,hj]
theorem safe_val (n:Nat) (d:Dsk) (h:DkOk d):disk_Disk_Safe (n+2) d=some (d.1,d):=by
  rw[disk_Disk_Safe_eq,sl_Clone_string_eq]
  have h1:((0+d.1.length)*16≤140737488355328):=by have:=h.len;omega
  by_cases h0:d.1.length=0
  · have:d.1=[]:=List.eq_nil_of_length_eq_zero h0
    simp only[tfd,if_pos h0,if_pos h1]
    rw[this];simp
  · simp only[tfd,if_neg h0,if_pos h1]
    simp
theorem pending_val (n:Nat) (d:Dsk) (h:d.2.1.length≤1000000000000):disk_Disk_Pending (n+2) d=some (d.2.1,d):=by
  rw[disk_Disk_Pending_eq,sl_Clone_Change_eq]
  have h1:((0+d.2.1.length)*24≤140737488355328):=by omega
  by_cases h0:d.2.1.length=0
  · have:d.2.1=[]:=List.eq_nil_of_length_eq_zero h0
    simp only[tfd,if_pos h0,if_pos h1]
    rw[this];simp
  · simp only[tfd,if_neg h0,if_pos h1]
    simp
end Go.Proofs.Ytghegadegcemjaa

set_option maxRecDepth 100000
namespace Go.Proofs.Ytghegadegcemjaa
open Go.Flat
theorem text_val (n:Nat) (c:Int):l25_text (n+1) c=some (List.replicate 512 (UInt8.ofNat (Int.toNat c))):=by kernel_rfl
theorem rep512 (n:Nat):strings_Repeat (n+3) [0] 512=some (List.replicate 512 0):=by kernel_rfl
end Go.Proofs.Ytghegadegcemjaa
namespace Go.Proofs.Ytghegadegcemjaa
open Go.Flat
set_option linter.unusedVariables false
set_option linter.unusedSimpArgs false
theorem rep_loop (n:Nat) (r:Sec) (m:Nat) (hm:m≤16777216):∀(f k:Nat),1≤k→k≤m→m-k≤f →
    sl_Repeat_string_l8 n (f+1) (List.replicate k r++List.replicate (m-k) [],(k:Int),())=some (.inl (List.replicate m r,())):=by
  intro f
  induction f with
  | zero =>
    intro k h1 h2 h3
    obtain rfl:k=m:=by omega
    rw[sl_Repeat_string_l8_eq]
    simp[tfd]
  | succ f ih =>
    intro k h1 h2 h3
    rw[sl_Repeat_string_l8_eq]
    have hlen:(List.replicate k r++List.replicate (m-k) ([]:Sec)).length=m:=by simp;omega
    rw[hlen]
    by_cases hk:k=m
    · subst hk
      simp[tfd]
    · have c1:((k:Int)<(m:Int)):=by omega
      have c2:((0:Int)≤(k:Int)):=by omega
      have c3:(Int.toNat (k:Int)≤m):=by simp;omega
      have c4:(decide ((0:Int)≤(k:Int))&&decide ((k:Int)≤(m:Int)))=true:=by simp;omega
      have c5:(Int.toNat (k:Int)+(m-Int.toNat (k:Int))≤m):=by simp;omega
      rw[c4]
      simp only[tif_ite,decide_eq_true_eq,if_pos c1,if_pos c2,if_pos c3,if_pos c5,if_true]
      have e1:List.take (Int.toNat (k:Int)-0) (List.drop 0 (List.replicate k r++List.replicate (m-k) ([]:Sec)))=List.replicate k r:=by simp
      rw[e1]
      have e2:List.take (m-Int.toNat (k:Int)) (List.replicate k r)=List.replicate (min (m-k) k) r:=by simp
      rw[e2]
      have e3:(k:Int)+((List.replicate (min (m-k) k) r).length:Int)=((k+min (m-k) k:Nat):Int):=by simp
      rw[e3,w64 (by omega) (by omega)]
      have e4:Go.Flat.putRow (List.replicate k r++List.replicate (m-k) ([]:Sec)) (Int.toNat (k:Int)) (List.replicate (min (m-k) k) r)=List.replicate (k+min (m-k) k) r++List.replicate (m-(k+min (m-k) k)) []:=by
        unfold Go.Flat.putRow
        rw[show Int.toNat (k:Int)=k by simp,List.take_left' (by simp),List.drop_append,List.drop_of_length_le (by simp),List.replicate_append_replicate]
        simp
        omega
      rw[e4]
      exact ih (k+min (m-k) k) (by omega) (by omega) (by omega)
end Go.Proofs.Ytghegadegcemjaa

namespace Go.Plim
set_option linter.unusedVariables false
abbrev Wd:=Int×Int
abbrev Ev:=Int×(Int×(Int×Bool))
abbrev Cel:=Int×(Ev×(Ev×(Wd×(Int×(Int×Int)))))
instance decWd:DecidableEq Wd:=inferInstanceAs (DecidableEq (Int×Int))
instance decEv:DecidableEq Ev:=inferInstanceAs (DecidableEq (Int×(Int×(Int×Bool))))
instance decCel:DecidableEq Cel := @instDecidableEqProd _ _ _ (@instDecidableEqProd _ _ decEv (@instDecidableEqProd _ _ decEv (@instDecidableEqProd _ _ decWd inferInstance)))
def wv (a:Wd):Int:=a.1*18446744073709551616+a.2
structure WdOk (a:Wd):Prop where
  hi:0≤a.1∧a.1≤18446744073709551615
  lo:0≤a.2∧a.2≤18446744073709551615
def e0:Ev:=(0,(0,(0,false)))
structure EvOk (e:Ev):Prop where
  t0:0≤e.1
  t1:e.1<35184372088832
  v0:0≤e.2.1
  v1:e.2.1≤18446744073709551615
  c0:0≤e.2.2.1
  c1:e.2.2.1≤e.1
  st:e.2.2.2=true→e.2.1=0∧e.2.2.1=0
structure DlOk (d:Int×(Int×(Int×Int))) (s:Int):Prop where
  i:0≤d.1∧d.1≤18446744073709551615
  r:0≤d.2.1
  g:0≤d.2.2.1
  rg:d.2.1+d.2.2.1≤1
  s:0≤d.2.2.2∧d.2.2.2≤s
def z0:Cel:=(0,(e0,(e0,((0,0),(0,(0,0))))))
structure CellN (c:Cel):Prop where
  n1:1≤c.1
  f:EvOk c.2.1
  l:EvOk c.2.2.1
  one:c.1=1→c.2.1=c.2.2.1
  more:1<c.1→c.2.1.1<c.2.2.1.1
  n2:c.1-1≤c.2.2.1.1-c.2.1.1
  w:WdOk c.2.2.2.1
  inc:wv c.2.2.2.1≤18446744073709551615*(c.1-1)
  r:0≤c.2.2.2.2.1
  g:0≤c.2.2.2.2.2.1
  rg:c.2.2.2.2.1+c.2.2.2.2.2.1≤c.1-1
  s0:0≤c.2.2.2.2.2.2
  s1:c.2.2.2.2.2.2≤c.2.2.1.1-c.2.1.1
def CellOk (c:Cel):Prop:=c=z0∨CellN c
theorem CellN.ne {c:Cel} (h:CellN c):c≠z0:=by
  intro e;have:=h.n1;rw[e] at this;simp[z0] at this
theorem CellN.ok {c:Cel} (h:CellN c):CellOk c := .inr h
theorem CellOk.n {c:Cel} (h:CellOk c) (hz:c≠z0):CellN c:=h.resolve_left hz
theorem CellOk.count {c:Cel} (h:CellOk c):(c.1=0↔c=z0)∧0≤c.1:=by
  rcases h with rfl | h
  · exact ⟨⟨fun _=>rfl,fun _=>rfl⟩,by simp[z0]⟩
  · have:=h.n1;exact ⟨⟨fun e=>by omega,fun e=>absurd e h.ne⟩,by omega⟩
theorem CellN.ft {c:Cel} (h:CellN c):c.2.1.1≤c.2.2.1.1:=by have:=h.n1;have:=h.n2;omega
structure Foll (l:List Ev):Prop where
  ok:∀e∈l,EvOk e
  inc:l.Pairwise fun a b=>a.1<b.1
theorem Foll.nil:Foll []:=⟨by simp,.nil⟩
theorem Foll.sub {l m:List Ev} (h:Foll l) (s:m.Sublist l):Foll m:=⟨fun e he=>h.ok e (s.subset he),h.inc.sublist s⟩
structure Has (l:List Ev) (c:Cel):Prop where
  n:CellN c
  cnt:c.1=l.length
  first:l.head? = some c.2.1
  last:l.getLast? = some c.2.2.1
end Go.Plim

namespace Go.Proofs.Ytghegadegcemjaa
open Go.Flat Go.Plim
set_option linter.unusedVariables false
set_option linter.unusedSimpArgs false
theorem shr_nat (x:Int) (k:Nat) (hk:k≤64):shrI .u64 x (k:Int)=x / 2^k:=by
  unfold shrI
  rw[show min (k:Int).toNat IntKind.u64.bits=k from by show min (k:Int).toNat 64=k;omega]
  exact Int.fdiv_eq_ediv_of_nonneg _ (Int.le_of_lt (Int.pow_pos (by decide)))
theorem and_mask (x:Int) (k:Nat) (hk:k≤63) (h:0≤x) (h':x≤18446744073709551615):andI .u64 x ((2^k-1:Nat):Int)=x % ((2^k:Nat):Int):=by
  obtain ⟨a,rfl⟩:=Int.eq_ofNat_of_zero_le h
  have hp:2^k≤2^63:=Nat.pow_le_pow_right (by decide) hk
  have h63:(2:Nat)^63=9223372036854775808:=by decide
  unfold andI
  have e:(BitVec.ofInt IntKind.u64.bits (a:Int) &&& BitVec.ofInt IntKind.u64.bits ((2^k-1:Nat):Int)).toNat=a % 2^k:=by
    show (BitVec.ofInt 64 (a:Int) &&& BitVec.ofInt 64 ((2^k-1:Nat):Int)).toNat=_
    rw[BitVec.toNat_and,BitVec.ofInt_natCast,BitVec.ofInt_natCast,BitVec.toNat_ofNat,BitVec.toNat_ofNat,Nat.mod_eq_of_lt (a:=a) (by omega),Nat.mod_eq_of_lt (a:=2^k-1) (by omega),Nat.and_two_pow_sub_one_eq_mod]
  rw[e]
  have:a % 2^k<2^k:=Nat.mod_lt _ (Nat.pow_pos (by decide))
  rw[wu64 (by omega) (by omega)]
  simp
theorem mul64 (n:Nat) (x y:Int) (hx:0≤x∧x≤18446744073709551615) (hy:0≤y∧y≤18446744073709551615):math_bits_Mul64 (n+1) x y=some (x*y / 18446744073709551616,x*y % 18446744073709551616):=by
  rw[math_bits_Mul64_eq]
  have sh:∀z:Int,shrI .u64 z (32:Int)=z / 4294967296:=fun z=>shr_nat z 32 (by decide)
  have an:∀z:Int,0≤z→z≤18446744073709551615→andI .u64 z (4294967295:Int)=z % 4294967296:=fun z h h'=>and_mask z 32 (by decide) h h'
  rw[an x hx.1 hx.2,an y hy.1 hy.2]
  simp only[sh]
  have b1:0≤x / 4294967296∧x / 4294967296≤4294967295:=by omega
  have b2:0≤y / 4294967296∧y / 4294967296≤4294967295:=by omega
  have b3:0≤x % 4294967296∧x % 4294967296≤4294967295:=by omega
  have b4:0≤y % 4294967296∧y % 4294967296≤4294967295:=by omega
  have ex:x=x / 4294967296*4294967296+x % 4294967296:=by omega
  have ey:y=y / 4294967296*4294967296+y % 4294967296:=by omega
  generalize hx1:x / 4294967296=x1 at *
  generalize hx0:x % 4294967296=x0 at *
  generalize hy1:y / 4294967296=y1 at *
  generalize hy0:y % 4294967296=y0 at *
  have bound:∀ {u v:Int},0≤u∧u≤4294967295→0≤v∧v≤4294967295→0≤u*v∧u*v≤18446744065119617025:=fun {u v} hu hv =>
    ⟨Int.mul_nonneg hu.1 hv.1,Int.le_trans (Int.mul_le_mul hu.2 hv.2 hv.1 (by decide)) (by decide)⟩
  have p11:=bound b1 b2
  have p10:=bound b1 b4
  have p01:=bound b3 b2
  have p00:=bound b3 b4
  have exy:x*y=x1*y1*18446744073709551616+(x1*y0+x0*y1)*4294967296+x0*y0:=by
    rw[ex,ey]
    simp only[Int.add_mul,Int.mul_add]
    have q1:x1*4294967296*(y1*4294967296)=x1*y1*18446744073709551616:=by
      rw[Int.mul_assoc,Int.mul_left_comm 4294967296 y1,←Int.mul_assoc];rfl
    have q2:x0*(y1*4294967296)=x0*y1*4294967296:=by rw[Int.mul_assoc]
    have q3:x1*4294967296*y0=x1*y0*4294967296:=by rw[Int.mul_assoc,Int.mul_comm 4294967296 y0,←Int.mul_assoc]
    rw[q1,q2,q3];omega
  rw[exy]
  generalize x1*y1=a11 at *
  generalize x1*y0=a10 at *
  generalize x0*y1=a01 at *
  generalize x0*y0=a00 at *
  rw[wu64 (x:=a00) (by omega) (by omega),wu64 (x:=a11) (by omega) (by omega),wu64 (x:=a10) (by omega) (by omega),wu64 (x:=a01) (by omega) (by omega)]
  rw[wu64 (x:=a10+a00 / 4294967296) (by omega) (by omega),an _ (by omega) (by omega)]
  rw[wu64 (x:=a11+(a10+a00 / 4294967296) / 4294967296) (by omega) (by omega),wu64 (x:=(a10+a00 / 4294967296) % 4294967296+a01) (by omega) (by omega),wu64 (by omega) (by omega)]
  have wm:∀z:Int,IntKind.wrap .u64 z=z % 18446744073709551616:=fun z=>IntKind.wrap_u64 z
  rw[wm]
  congr 2
  omega
end Go.Proofs.Ytghegadegcemjaa
namespace Go.Proofs.Ytghegadegcemjaa
open Go.Flat
set_option linter.unusedVariables false
set_option linter.unusedSimpArgs false
theorem repeat_val (n:Nat) (r:Sec) (m:Nat) (h1:1≤m) (h2:m≤16777216):sl_Repeat_string (n+3) [r] (m:Int)=some (List.replicate m r):=by
  rw[sl_Repeat_string_eq]
  have c1:¬((m:Int)<0):=by omega
  have e1:(((List.length [r]:Nat)):Int)=1:=rfl
  rw[e1,wu64 (x:=1) (by omega) (by omega),wu64 (x:=(m:Int)) (by omega) (by omega),math_bits_Mul_eq,mul64 n 1 (m:Int) (by omega) (by omega)]
  have e2:(1:Int)*(m:Int) / 18446744073709551616=0:=by omega
  have e3:(1:Int)*(m:Int) % 18446744073709551616=(m:Int):=by omega
  rw[e2,e3,obs,obs]
  have c2:¬((9223372036854775807:Int)<(m:Int)):=by omega
  have e4:IntKind.wrap .i64 (m:Int)=(m:Int):=w64 (by omega) (by omega)
  rw[e4]
  have c3:(decide ((0:Int)≤(m:Int))&&(decide ((m:Int)≤(m:Int))&&decide ((m:Int)*16≤(140737488355328:Int))))=true:=by simp;omega
  rw[c3]
  simp only[tif_ite,decide_eq_true_eq,if_neg c1,if_neg c2,if_true,Int.lt_irrefl,if_false,Int.toNat_natCast,List.length_replicate]
  have e5:List.take m [r]=[r]:=by
    cases m with
    | zero=>omega
    | succ m=>simp
  have e6:Go.Flat.putRow (List.replicate m ([]:Sec)) 0 [r]=List.replicate 1 r++List.replicate (m-1) []:=by simp[Go.Flat.putRow]
  rw[e5,e6]
  have:=rep_loop (n+2) r m h2 (loopFuel-1) 1 (Nat.le_refl _) h1 (by unfold loopFuel;omega)
  rw[show loopFuel-1+1=loopFuel by unfold loopFuel;omega] at this
  have e7:(((List.length [r]:Nat)):Int)=((1:Nat):Int):=rfl
  rw[e7,this,obs,selim_inl]
def zsec:Sec:=List.replicate 512 0
def newD (m:Nat):Dsk:=(List.replicate m zsec,[],0,false)
theorem new_val (n:Nat) (c:Int):disk_New (n+4) c=some (if 1≤c∧c≤16777216 then (some (newD c.toNat),0) else (none,1)):=by
  rw[disk_New_eq]
  by_cases h1:c<1
  · rw[if_neg (by omega)];simp only[tfd,if_pos h1]
  by_cases h2:16777216<c
  · rw[if_neg (by omega)];simp only[tfd,if_neg h1,if_pos h2]
  rw[if_pos (by omega)]
  simp only[tfd,if_neg h1,if_neg h2]
  have e:c=((c.toNat:Nat):Int):=by omega
  rw[rep512,obs]
  have:=repeat_val n (List.replicate 512 0) c.toNat (by omega) (by omega)
  rw[←e] at this
  rw[this,obs]
  rfl
abbrev Act25:=Int×(Int×(Int×(Bool×List Bool)))
def tx (c:Int):Sec:=List.replicate 512 (UInt8.ofNat (Int.toNat c))
theorem tx_val (n:Nat) (c:Int):l25_text (n+1) c=some (tx c):=text_val n c
theorem tx_length (c:Int):(tx c).length=512:=List.length_replicate
def upd (S:List Sec) (W:List Chg):Dsk:=(S,W,0,false)
def chs (m:Nat):List Act25→List Chg
  | []=>[]
  | a::l=>if 0≤a.2.1∧a.2.1<m then (a.2.1,tx a.2.2.1)::chs m l else chs m l
theorem chs_length (m:Nat):∀l,(chs m l).length≤l.length
  | []=>Nat.le_refl _
  | a::l=>by
    have:=chs_length m l
    unfold chs
    split<;>simp<;>omega
theorem chs_fit (m:Nat):∀l,∀z∈chs m l,FitC m z∧∃a∈l,z=(a.2.1,tx a.2.2.1)
  | [],z,hz=>by cases hz
  | a::l,z,hz=>by
    unfold chs at hz
    split at hz
    · rename_i h
      rcases List.mem_cons.1 hz with rfl | hz
      · exact ⟨⟨h.1,h.2,tx_length _⟩,a,List.mem_cons_self,rfl⟩
      · obtain ⟨h1,b,hb,e⟩:=chs_fit m l z hz
        exact ⟨h1,b,List.mem_cons_of_mem _ hb,e⟩
    · obtain ⟨h1,b,hb,e⟩:=chs_fit m l z hz
      exact ⟨h1,b,List.mem_cons_of_mem _ hb,e⟩
theorem upd_write (S:List Sec) (W:List Chg) (i c:Int):writeD (upd S W) i (tx c)=if 0≤i∧i<S.length then (0,upd S (W++[(i,tx c)])) else (1,upd S W):=by
  unfold writeD
  have h:stepD (upd S W)=(0,upd S W):=by simp[stepD,upd]
  by_cases hi:0≤i∧i<(S.length:Int)
  · rw[if_pos ⟨hi.1,hi.2,tx_length c⟩,if_pos hi,h]
    rfl
  · rw[if_neg (fun q=>hi ⟨q.1,q.2.1⟩),if_neg hi]
theorem whole_l7 (n:Nat) (behind:List Act25) (keep:List Bool) (S:List Sec) (l:List Act25) (hl:l.length≤1000):∀(rest pre:List Act25) (f:Nat) (W:List Chg) (i:Int),l=pre++rest→i=pre.length→W.length≤pre.length →
    l25_DiskWhole_l7 (n+2) (f+rest.length+1) (behind,keep,upd S W,l,(l.length:Int),i,())=some (.inl (behind,keep,upd S (W++chs S.length rest),())):=by
  intro rest
  induction rest with
  | nil =>
    intro pre f W i h hi hw
    rw[l25_DiskWhole_l7_eq]
    have h1:¬(i<(l.length:Int)):=by have:=congrArg List.length h;simp at this;omega
    simp only[tfd,if_neg h1]
    simp[chs]
  | cons a rest ih =>
    intro pre f W i h hi hw
    have hlen:=congrArg List.length h
    simp at hlen
    rw[show f+(a::rest).length+1=(f+rest.length+1)+1 by simp;omega,l25_DiskWhole_l7_eq]
    have h1:i<(l.length:Int):=by omega
    simp only[tfd,if_pos h1]
    rw[kat_mid h hi,obs,tx_val,obs,write_val n (upd S W) a.2.1 (tx a.2.2.1) (by simp[upd]) (by show W.length≤_;omega),obs,upd_write,w64 (x:=i+1) (by omega) (by omega)]
    unfold chs
    by_cases hf:0≤a.2.1∧a.2.1<(S.length:Int)
    · rw[if_pos hf,if_pos hf]
      rw[ih (pre++[a]) f (W++[(a.2.1,tx a.2.2.1)]) (i+1) (by rw[h];simp) (by simp;omega) (by simp;omega)]
      simp
    · rw[if_neg hf,if_neg hf]
      rw[ih (pre++[a]) f W (i+1) (by rw[h];simp) (by simp;omega) (by simp;omega)]
theorem whole_l16 (n:Nat) (behind:List Act25) (keep:List Bool) (S was:List Sec) (l:List Act25) (hl:l.length≤1000):∀(rest pre:List Act25) (f:Nat) (W:List Chg) (i:Int),l=pre++rest→i=pre.length→W.length≤pre.length →
    l25_DiskWhole_l16 (n+2) (f+rest.length+1) (behind,keep,upd S W,was,(W.length:Int),l,(l.length:Int),i,())=some (.inl (behind,keep,upd S (W++chs S.length rest),was,((W++chs S.length rest).length:Int),())):=by
  intro rest
  induction rest with
  | nil =>
    intro pre f W i h hi hw
    rw[l25_DiskWhole_l16_eq]
    have h1:¬(i<(l.length:Int)):=by have:=congrArg List.length h;simp at this;omega
    simp only[tfd,if_neg h1]
    simp[chs]
  | cons a rest ih =>
    intro pre f W i h hi hw
    have hlen:=congrArg List.length h
    simp at hlen
    rw[show f+(a::rest).length+1=(f+rest.length+1)+1 by simp;omega,l25_DiskWhole_l16_eq]
    have h1:i<(l.length:Int):=by omega
    simp only[tfd,if_pos h1]
    rw[kat_mid h hi,obs,tx_val,obs,write_val n (upd S W) a.2.1 (tx a.2.2.1) (by simp[upd]) (by show W.length≤_;omega),obs,upd_write,w64 (x:=i+1) (by omega) (by omega),w64 (x:=(W.length:Int)+1) (by omega) (by omega)]
    unfold chs
    by_cases hf:0≤a.2.1∧a.2.1<(S.length:Int)
    · rw[if_pos hf,if_pos hf]
      simp only[if_true]
      have e:(W.length:Int)+1=((W++[(a.2.1,tx a.2.2.1)]).length:Int):=by simp
      rw[e,ih (pre++[a]) f (W++[(a.2.1,tx a.2.2.1)]) (i+1) (by rw[h];simp) (by simp;omega) (by simp;omega)]
      simp
    · rw[if_neg hf,if_neg hf]
      simp only[if_neg (show ¬((1:Int)=0) by decide)]
      rw[ih (pre++[a]) f W (i+1) (by rw[h];simp) (by simp;omega) (by simp;omega)]
def hit (i:Int) (s:Sec) (ok:Bool):List Act25→Bool
  | []=>ok
  | a::l=>hit i s (ok||(decide (a.2.1=i)&&(s==tx a.2.2.1))) l
theorem hit_true (i:Int) (s:Sec):∀(l:List Act25) (ok:Bool),(ok=true∨∃a∈l,a.2.1=i∧s=tx a.2.2.1)→hit i s ok l=true
  | [],ok,h=>by
    rcases h with h | ⟨a,ha,_⟩
    · exact h
    · cases ha
  | b::l,ok,h=>by
    unfold hit
    refine hit_true i s l _ ?_
    rcases h with h | ⟨a,ha,h1,h2⟩
    · left;simp[h]
    · rcases List.mem_cons.1 ha with rfl | ha
      · left;simp[h1,h2]
      · exact .inr ⟨a,ha,h1,h2⟩
theorem whole_l29 (n:Nat) (behind:List Act25) (keep:List Bool) (d:Dsk) (was:List Sec) (i:Int) (s:Sec) (X:List Sec) (x y:Int) (l:List Act25) (hl:l.length≤1000):∀(rest pre:List Act25) (f:Nat) (ok:Bool) (j:Int),l=pre++rest→j=pre.length →
    l25_DiskWhole_l29 (n+1) (f+rest.length+1) (behind,keep,d,was,i,s,ok,X,x,y,l,(l.length:Int),j,())=some (.inl (behind,keep,d,was,i,s,hit i s ok rest,X,x,y,())):=by
  intro rest
  induction rest with
  | nil =>
    intro pre f ok j h hj
    rw[l25_DiskWhole_l29_eq]
    have h1:¬(j<(l.length:Int)):=by have:=congrArg List.length h;simp at this;omega
    simp only[tfd,if_neg h1]
    rfl
  | cons a rest ih =>
    intro pre f ok j h hj
    have hlen:=congrArg List.length h
    simp at hlen
    rw[show f+(a::rest).length+1=(f+rest.length+1)+1 by simp;omega,l25_DiskWhole_l29_eq]
    have h1:j<(l.length:Int):=by omega
    simp only[tfd,if_pos h1]
    rw[kat_mid h hj,obs,w64 (x:=j+1) (by omega) (by omega)]
    unfold hit
    cases ok with
    | true =>
      simp only[tif_ite,if_true]
      rw[ih (pre++[a]) f true (j+1) (by rw[h];simp) (by simp;omega)]
      simp
    | false =>
      simp only[tif_ite,Bool.false_eq_true,if_false]
      by_cases hi:a.2.1=i
      · rw[if_pos hi,tx_val,obs,ih (pre++[a]) f _ (j+1) (by rw[h];simp) (by simp;omega)]
        simp[hi]
      · rw[if_neg hi,ih (pre++[a]) f _ (j+1) (by rw[h];simp) (by simp;omega)]
        simp[hi]
theorem putAll_get:∀(l:List Chg) (S:List Sec) (i:Nat) (s:Sec),(∀z∈l,0≤z.1)→(putAll S l)[i]? = some s→S[i]? = some s∨∃z∈l,z.1=(i:Int)∧z.2=s
  | [],S,i,s,_,h => .inl h
  | z::l,S,i,s,hz,h=>by
    have h':(putAll (S.set z.1.toNat z.2) l)[i]? = some s:=h
    rcases putAll_get l _ i s (fun y hy=>hz y (List.mem_cons_of_mem _ hy)) h' with q | ⟨y,hy,q⟩
    · rw[List.getElem?_set] at q
      split at q
      · rename_i he
        split at q
        · injection q with q
          exact .inr ⟨z,List.mem_cons_self,by have:=hz z List.mem_cons_self;omega,q⟩
        · cases q
      · exact .inl q
    · exact .inr ⟨y,List.mem_cons_of_mem _ hy,q⟩
theorem upd_read (n:Nat) (S:List Sec) (i:Nat) (s:Sec) (h:S[i]? = some s):disk_Disk_Read (n+1) (upd S []) (i:Int)=some (s,0,upd S []):=by
  rw[disk_Disk_Read_eq]
  have hl:i<S.length:=(List.getElem?_eq_some_iff.1 h).1
  simp[dkRead,upd,hl,h]
  exact (List.getElem?_eq_some_iff.1 h).2
theorem whole_l25 (n:Nat) (behind:List Act25) (hb:behind.length≤1000) (keep:List Bool) (S was:List Sec) (hS:S.length≤1000) (hw:was.length=S.length) (hok:∀(i:Nat) (s:Sec),S[i]? = some s→was[i]? = some s∨∃a∈behind,a.2.1=(i:Int)∧s=tx a.2.2.1) (hk:keep=[]→was=S) :
    ∀(rest pre:List Sec) (f:Nat) (j:Int),S=pre++rest→j=pre.length →
    l25_DiskWhole_l25 (n+1) (f+rest.length+1) (behind,keep,upd S [],was,S,(S.length:Int),j,())=some (.inl (upd S [],())):=by
  intro rest
  induction rest with
  | nil =>
    intro pre f j h hj
    rw[l25_DiskWhole_l25_eq]
    have h1:¬(j<(S.length:Int)):=by have:=congrArg List.length h;simp at this;omega
    simp only[tfd,if_neg h1]
  | cons s rest ih =>
    intro pre f j h hj
    have hlen:=congrArg List.length h
    simp at hlen
    rw[show f+(s::rest).length+1=(f+rest.length+1)+1 by simp;omega,l25_DiskWhole_l25_eq]
    have h1:j<(S.length:Int):=by omega
    have hSj:S[j.toNat]? = some s:=kget_mid h hj
    have hSj':S[pre.length]? = some s:=by rw[←hSj,hj];simp
    obtain ⟨w,hwj⟩:∃w,was[pre.length]? = some w:=⟨_,List.getElem?_eq_getElem (by omega)⟩
    have hwt:was[j.toNat]? = some w:=by rw[←hwj,hj];simp
    have hwa:at? was j=some w:=by rw[at?,hj];simpa using hwj
    simp only[tfd,if_pos h1]
    rw[kat_mid h hj,obs,hSj,obs,hwa,obs,hwt,obs]
    have hfu:loopFuel=(loopFuel-behind.length-1)+behind.length+1:=by unfold loopFuel;omega
    rw[hfu,whole_l29 n behind keep (upd S []) was j s S (S.length:Int) j behind hb behind [] (loopFuel-behind.length-1) (s==w) 0 rfl rfl,obs,selim_inl]
    have hh:hit j s (s==w) behind=true:=by
      refine hit_true j s behind _ ?_
      rcases hok pre.length s hSj' with q | ⟨a,ha,q1,q2⟩
      · left
        rw[hwj] at q;injection q with q
        simp[q]
      · exact .inr ⟨a,ha,by rw[q1,hj],q2⟩
    rw[hh]
    have hr:=upd_read n S pre.length s hSj'
    rw[←hj] at hr
    simp only[tif_ite,Bool.not_true,Bool.false_eq_true,if_false,decide_eq_true_eq]
    rw[hr,obs]
    have hnext:=ih (pre++[s]) f (j+1) (by rw[h];simp) (by simp;omega)
    rw[w64 (x:=j+1) (by omega) (by omega)]
    have t1:(!decide ((0:Int)=0))=false:=rfl
    have t2:(!(s==s))=false:=by simp
    simp only[t2,Bool.false_eq_true,if_false]
    by_cases hke:(keep.length:Int)=0
    · have hke':keep=[]:=List.eq_nil_of_length_eq_zero (by omega)
      have hws:=hk hke'
      have hsw:w=s:=by rw[hws,hSj'] at hwj;injection hwj with q;exact q.symm
      rw[if_pos hke,hwa,obs,hwt,obs,hsw]
      simpa using hnext
    · rw[if_neg hke]
      simpa using hnext
theorem whole_true (n:Nat) (hlv:l25_lives (n+6)=some true) (c:Int) (before behind:List Act25) (keep:List Bool):l25_DiskWhole (n+7) c before behind keep=some true:=by
  rw[l25_DiskWhole_eq,hlv,obs,new_val,obs]
  by_cases hc':¬(1≤c∧c≤16777216)
  · rw[if_neg hc'];rfl
  have hc:1≤c∧c≤16777216:=by omega
  rw[if_pos hc]
  simp only[Bool.not_true,tif_ite,Bool.false_eq_true,if_false,oelim_some]
  have t0:(!decide ((0:Int)=0))=false:=rfl
  simp only[decide_true,Bool.not_true,Bool.false_eq_true,if_false,decide_eq_true_eq]
  by_cases h1:60<c
  · rw[if_pos h1]
  rw[if_neg h1]
  by_cases h2:(60:Int)<(before.length:Int)
  · rw[if_pos h2]
  rw[if_neg h2]
  by_cases h3:(60:Int)<(behind.length:Int)
  · rw[if_pos h3]
  rw[if_neg h3]
  obtain ⟨m,hm⟩:∃m,c.toNat=m:=⟨_,rfl⟩
  have hm60:m≤60:=by omega
  rw[hm]
  have hfu:∀k:Nat,k≤1000→loopFuel=(loopFuel-k-1)+k+1:=fun k hk=>by unfold loopFuel;omega
  have e0:newD m=upd (List.replicate m zsec) []:=rfl
  obtain ⟨S,hS⟩:∃S,List.replicate m zsec=S:=⟨_,rfl⟩
  have hSl:S.length=m:=by rw[←hS];simp
  rw[e0,hS,hfu before.length (by omega),whole_l7 (n+4) behind keep S before (by omega) before [] _ [] 0 rfl rfl (Nat.le_refl _),obs,selim_inl]
  obtain ⟨W,hW⟩:∃W,[]++chs S.length before=W:=⟨_,rfl⟩
  rw[hW]
  have hWf:∀z∈W,FitC S.length z:=fun z hz=>(chs_fit S.length before z (by rw[←hW] at hz;simpa using hz)).1
  have hWl:W.length≤before.length:=by rw[←hW];simpa using chs_length S.length before
  have ok1:DkOk (upd S W):=⟨by show S.length≤_;omega,by show W.length≤_;omega,hWf⟩
  rw[sync_val (n+4) (upd S W) ok1 (by simp[upd]),obs]
  obtain ⟨S1,hS1⟩:∃S1,putAll S W=S1:=⟨_,rfl⟩
  have hS1l:S1.length=m:=by rw[←hS1,putAll_length,hSl]
  have es:syncD (upd S W)=(0,upd S1 []):=by
    have h:stepD (upd S W)=(0,upd S W):=by simp[stepD,upd]
    unfold syncD
    rw[h,←hS1]
    simp[keepD,upd,keepF_all]
  rw[es]
  have ok2:DkOk (upd S1 []):=⟨by show S1.length≤_;omega,by show 0≤_;omega,fun z hz=>by cases hz⟩
  simp only[decide_true,Bool.not_true,Bool.false_eq_true,if_false]
  rw[safe_val (n+4) (upd S1 []) ok2,obs]
  have h16:=whole_l16 (n+4) behind keep S1 S1 behind (by omega) behind [] (loopFuel-behind.length-1) [] 0 rfl rfl (Nat.le_refl _)
  rw[←hfu behind.length (by omega)] at h16
  have ez:(([]:List Chg).length:Int)=0:=rfl
  rw[ez] at h16
  rw[←hfu before.length (by omega)]
  show obind (l25_DiskWhole_l16 (n+6) loopFuel (behind,keep,upd S1 [],S1,0,behind,(behind.length:Int),0,())) _=_
  rw[h16,obs,selim_inl]
  obtain ⟨C,hC⟩:∃C,[]++chs S1.length behind=C:=⟨_,rfl⟩
  rw[hC]
  have hC':chs S1.length behind=C:=by rw[←hC];rfl
  have hCf:∀z∈C,FitC S1.length z∧∃a∈behind,z=(a.2.1,tx a.2.2.1):=fun z hz=>chs_fit S1.length behind z (hC' ▸ hz)
  have hCl:C.length≤behind.length:=by rw[←hC'];exact chs_length S1.length behind
  have ok3:DkOk (upd S1 C):=⟨by show S1.length≤_;omega,by show C.length≤_;omega,fun z hz=>(hCf z hz).1⟩
  rw[pending_val (n+4) (upd S1 C) (by show C.length≤_;omega),obs]
  have ec:(!decide (((upd S1 C).2.1.length:Int)=(C.length:Int)))=false:=by simp[upd]
  simp only[ec,Bool.false_eq_true,if_false]
  rw[up_val (n+4) (upd S1 C) keep ok3,obs]
  obtain ⟨S2,hS2⟩:∃S2,putAll S1 (keepF (upK keep) 0 C)=S2:=⟨_,rfl⟩
  have hS2l:S2.length=m:=by rw[←hS2,putAll_length,hS1l]
  have eu:(upD (upd S1 C) keep).2=upd S2 []:=by rw[←hS2];rfl
  rw[eu]
  have ok4:DkOk (upd S2 []):=⟨by show S2.length≤_;omega,by show 0≤_;omega,fun z hz=>by cases hz⟩
  rw[safe_val (n+4) (upd S2 []) ok4,obs]
  have hok:∀(i:Nat) (s:Sec),S2[i]? = some s→S1[i]? = some s∨∃a∈behind,a.2.1=(i:Int)∧s=tx a.2.2.1:=by
    intro i s hs
    rw[←hS2] at hs
    rcases putAll_get _ S1 i s (fun z hz=>(hCf z (keepF_mem C 0 hz)).1.1) hs with q | ⟨z,hz,q1,q2⟩
    · exact .inl q
    · obtain ⟨_,a,ha,e⟩:=hCf z (keepF_mem C 0 hz)
      exact .inr ⟨a,ha,by rw[←q1,e],by rw[←q2,e]⟩
  have hk0:keep=[]→S1=S2:=by
    rintro rfl
    have:∀(l:List Chg) (i:Int),0≤i→keepF (upK []) i l=[]:=by
      intro l
      induction l with
      | nil=>intro i _;rfl
      | cons z r ih=>intro i hi;unfold keepF;rw[if_neg (by simp[upK]),ih (i+1) (by omega)]
    rw[←hS2,this C 0 (Int.le_refl _)];rfl
  have h25:=whole_l25 (n+5) behind (by omega) keep S2 S1 (by omega) (by omega) hok hk0 S2 [] (loopFuel-S2.length-1) 0 rfl rfl
  rw[←hfu S2.length (by omega)] at h25
  show obind (l25_DiskWhole_l25 (n+6) loopFuel (behind,keep,upd S2 [],S1,S2,(S2.length:Int),0,())) _=_
  rw[h25,obs,selim_inl,pending_val (n+4) (upd S2 []) (by show 0≤_;omega),obs]
  have e9:decide ((((upd S2 []).2.1.length:Nat):Int)=0)=true:=by simp[upd]
  simp only[e9,if_true]
  rw[disk_Disk_Down_eq,obs]
  rfl
theorem l25_lives_eq (n:Nat)  : l25_lives (n+1)  =
  obind (disk_New n (2:Int)) fun r0 =>
  oelim (r0.1) (
  obind (disk_New n (0:Int)) fun r1 =>
  oelim (r1.1) (
  tif ((!(decide (r0.2=(0:Int))))) (
  some false) (
  some false)) fun r2 =>
  tif ((!(decide (r0.2=(0:Int))))) (
  some false) (
  some false)) fun r3 =>
  obind (disk_New n (0:Int)) fun r4 =>
  oelim (r4.1) (
  tif ((!(decide (r0.2=(0:Int))))) (
  some false) (
  tif ((!(decide (r4.2=(1:Int))))) (
  some false) (
  obind (l25_text n (1:Int)) fun r5 =>
  obind (disk_Disk_Write n r3 (0:Int) r5) fun r6 =>
  obind (disk_Disk_Sync n r6.2) fun r7 =>
  obind (l25_text n (2:Int)) fun r8 =>
  obind (disk_Disk_Write n r7.2 (0:Int) r8) fun r9 =>
  obind (l25_text n (3:Int)) fun r10 =>
  obind (disk_Disk_Write n r9.2 (1:Int) r10) fun r11 =>
  obind (disk_Disk_Read n r11.2 (0:Int)) fun r12 =>
  obind (disk_Disk_Arm n r12.2.2 (1:Int)) fun r13 =>
  obind (l25_text n (4:Int)) fun r14 =>
  obind (disk_Disk_Write n r13 (0:Int) r14) fun r15 =>
  obind (disk_Disk_Read n r15.2 (0:Int)) fun r16 =>
  obind (disk_Disk_Down n r16.2.2) fun r17 =>
  obind (disk_Disk_Up n r17.2 (false::(true::[]))) fun r18 =>
  obind (disk_Disk_Read n r18.2 (0:Int)) fun r19 =>
  obind (disk_Disk_Read n r19.2.2 (1:Int)) fun r20 =>
  tif ((decide (r6.1=(0:Int)))) (
  tif ((decide (r7.1=(0:Int)))) (
  obind (l25_text n (2:Int)) fun r21 =>
  tif ((r12.1==r21)) (
  tif ((decide (r12.2.1=(0:Int)))) (
  tif ((decide (r15.1=(14:Int)))) (
  tif ((decide (r16.2.1=(14:Int)))) (
  tif (r17.1) (
  tif ((decide (r18.1=(1:Int)))) (
  obind (l25_text n (1:Int)) fun r22 =>
  tif ((r19.1==r22)) (
  tif ((decide (r19.2.1=(0:Int)))) (
  obind (l25_text n (3:Int)) fun r23 =>
  tif ((r20.1==r23)) (
  tif ((decide (r20.2.1=(0:Int)))) (
  obind (disk_Disk_Pending n r20.2.2) fun r24 =>
  tif ((decide ((((List.length r24.1):Nat):Int)=(0:Int)))) (
  obind (disk_Disk_Len n r24.2) fun r25 =>
  tif ((decide (r25.1=(2:Int)))) (
  obind (l25_text n (1:Int)) fun r26 =>
  obind (disk_Disk_Write n r25.2 (2:Int) r26) fun r27 =>
  tif ((decide (r27.1=(1:Int)))) (
  obind (disk_Disk_Write n r27.2 (0:Int) ((120:UInt8)::[])) fun r28 =>
  some (decide (r28.1=(1:Int)))) (
  some false)) (
  some false)) (
  some false)) (
  some false)) (
  some false)) (
  some false)) (
  some false)) (
  some false)) (
  some false)) (
  some false)) (
  some false)) (
  some false)) (
  some false)) (
  some false)) (
  some false)))) fun r29 =>
  tif ((!(decide (r0.2=(0:Int))))) (
  some false) (
  tif ((!(decide (r4.2=(1:Int))))) (
  some false) (
  obind (l25_text n (1:Int)) fun r30 =>
  obind (disk_Disk_Write n r3 (0:Int) r30) fun r31 =>
  obind (disk_Disk_Sync n r31.2) fun r32 =>
  obind (l25_text n (2:Int)) fun r33 =>
  obind (disk_Disk_Write n r32.2 (0:Int) r33) fun r34 =>
  obind (l25_text n (3:Int)) fun r35 =>
  obind (disk_Disk_Write n r34.2 (1:Int) r35) fun r36 =>
  obind (disk_Disk_Read n r36.2 (0:Int)) fun r37 =>
  obind (disk_Disk_Arm n r37.2.2 (1:Int)) fun r38 =>
  obind (l25_text n (4:Int)) fun r39 =>
  obind (disk_Disk_Write n r38 (0:Int) r39) fun r40 =>
  obind (disk_Disk_Read n r40.2 (0:Int)) fun r41 =>
  obind (disk_Disk_Down n r41.2.2) fun r42 =>
  obind (disk_Disk_Up n r42.2 (false::(true::[]))) fun r43 =>
  obind (disk_Disk_Read n r43.2 (0:Int)) fun r44 =>
  obind (disk_Disk_Read n r44.2.2 (1:Int)) fun r45 =>
  tif ((decide (r31.1=(0:Int)))) (
  tif ((decide (r32.1=(0:Int)))) (
  obind (l25_text n (2:Int)) fun r46 =>
  tif ((r37.1==r46)) (
  tif ((decide (r37.2.1=(0:Int)))) (
  tif ((decide (r40.1=(14:Int)))) (
  tif ((decide (r41.2.1=(14:Int)))) (
  tif (r42.1) (
  tif ((decide (r43.1=(1:Int)))) (
  obind (l25_text n (1:Int)) fun r47 =>
  tif ((r44.1==r47)) (
  tif ((decide (r44.2.1=(0:Int)))) (
  obind (l25_text n (3:Int)) fun r48 =>
  tif ((r45.1==r48)) (
  tif ((decide (r45.2.1=(0:Int)))) (
  obind (disk_Disk_Pending n r45.2.2) fun r49 =>
  tif ((decide ((((List.length r49.1):Nat):Int)=(0:Int)))) (
  obind (disk_Disk_Len n r49.2) fun r50 =>
  tif ((decide (r50.1=(2:Int)))) (
  obind (l25_text n (1:Int)) fun r51 =>
  obind (disk_Disk_Write n r50.2 (2:Int) r51) fun r52 =>
  tif ((decide (r52.1=(1:Int)))) (
  obind (disk_Disk_Write n r52.2 (0:Int) ((120:UInt8)::[])) fun r53 =>
  some (decide (r53.1=(1:Int)))) (
  some false)) (
  some false)) (
  some false)) (
  some false)) (
  some false)) (
  some false)) (
  some false)) (
  some false)) (
  some false)) (
  some false)) (
  some false)) (
  some false)) (
  some false)) (
  some false)) (
  some false))):=by kernel_rfl
theorem lives_val (n:Nat):l25_lives (n+5)=some true:=by
  have l1:=tx_length 1
  have l2:=tx_length 2
  have l3:=tx_length 3
  have l4:=tx_length 4
  have q0:disk_New (n+4) 2=some (some (upd [zsec,zsec] []),0):=by rw[new_val];rfl
  have q1:disk_New (n+4) 0=some (none,1):=by rw[new_val];rfl
  have w1:disk_Disk_Write (n+4) (upd [zsec,zsec] []) 0 (tx 1)=some (0,upd [zsec,zsec] [(0,tx 1)]):=by
    rw[write_val _ _ _ _ (by simp[upd]) (by simp[upd]),upd_write];rfl
  have w2:disk_Disk_Sync (n+4) (upd [zsec,zsec] [(0,tx 1)])=some (0,upd [tx 1,zsec] []):=by
    rw[sync_val _ _ ⟨by simp[upd],by simp[upd],fun z hz=>by
      simp only[upd,List.mem_singleton] at hz
      subst hz
      exact ⟨by decide,by simp[upd],l1⟩⟩ (by simp[upd])]
    rfl
  have w3:disk_Disk_Write (n+4) (upd [tx 1,zsec] []) 0 (tx 2)=some (0,upd [tx 1,zsec] [(0,tx 2)]):=by
    rw[write_val _ _ _ _ (by simp[upd]) (by simp[upd]),upd_write];rfl
  have w4:disk_Disk_Write (n+4) (upd [tx 1,zsec] [(0,tx 2)]) 1 (tx 3)=some (0,upd [tx 1,zsec] [(0,tx 2),(1,tx 3)]):=by
    rw[write_val _ _ _ _ (by simp[upd]) (by simp[upd]),upd_write];rfl
  have w5:disk_Disk_Read (n+4) (upd [tx 1,zsec] [(0,tx 2),(1,tx 3)]) 0=some (tx 2,0,upd [tx 1,zsec] [(0,tx 2),(1,tx 3)]):=by
    rw[disk_Disk_Read_eq];rfl
  have w6:disk_Disk_Arm (n+4) (upd [tx 1,zsec] [(0,tx 2),(1,tx 3)]) 1=some ([tx 1,zsec],[(0,tx 2),(1,tx 3)],1,false):=by
    rw[disk_Disk_Arm_eq];rfl
  have w7:disk_Disk_Write (n+4) ([tx 1,zsec],[(0,tx 2),(1,tx 3)],1,false) 0 (tx 4)=some (14,[tx 1,zsec],[(0,tx 2),(1,tx 3)],0,true):=by
    rw[write_val _ _ _ _ (by simp) (by simp)]
    unfold writeD
    rw[if_pos ⟨by decide,by simp,l4⟩]
    rfl
  have w8:disk_Disk_Read (n+4) ([tx 1,zsec],[(0,tx 2),(1,tx 3)],0,true) 0=some ([],14,[tx 1,zsec],[(0,tx 2),(1,tx 3)],0,true):=by
    rw[disk_Disk_Read_eq];rfl
  have w9:disk_Disk_Down (n+4) ([tx 1,zsec],[(0,tx 2),(1,tx 3)],0,true)=some (true,[tx 1,zsec],[(0,tx 2),(1,tx 3)],0,true):=by
    rw[disk_Disk_Down_eq]
  have w10:disk_Disk_Up (n+4) ([tx 1,zsec],[(0,tx 2),(1,tx 3)],0,true) [false,true]=some (1,upd [tx 1,tx 3] []):=by
    rw[up_val _ _ _ ⟨by simp,by simp,fun z hz=>by
      simp only[List.mem_cons,List.not_mem_nil,or_false] at hz
      rcases hz with rfl | rfl
      · exact ⟨by decide,by simp,l2⟩
      · exact ⟨by decide,by simp,l3⟩⟩]
    rfl
  have w11:disk_Disk_Read (n+4) (upd [tx 1,tx 3] []) 0=some (tx 1,0,upd [tx 1,tx 3] []):=by
    rw[disk_Disk_Read_eq];rfl
  have w12:disk_Disk_Read (n+4) (upd [tx 1,tx 3] []) 1=some (tx 3,0,upd [tx 1,tx 3] []):=by
    rw[disk_Disk_Read_eq];rfl
  have w13:disk_Disk_Pending (n+4) (upd [tx 1,tx 3] [])=some ([],upd [tx 1,tx 3] []):=by
    rw[pending_val _ _ (by simp[upd])];rfl
  have w14:disk_Disk_Len (n+4) (upd [tx 1,tx 3] [])=some (2,upd [tx 1,tx 3] []):=by
    rw[disk_Disk_Len_eq];rfl
  have w15:disk_Disk_Write (n+4) (upd [tx 1,tx 3] []) 2 (tx 1)=some (1,upd [tx 1,tx 3] []):=by
    rw[write_val _ _ _ _ (by simp[upd]) (by simp[upd]),upd_write];rfl
  have w16:disk_Disk_Write (n+4) (upd [tx 1,tx 3] []) 0 [120]=some (1,upd [tx 1,tx 3] []):=by
    rw[write_val _ _ _ _ (by simp[upd]) (by simp[upd])];rfl
  have te:∀x:Sec,(x==x)=true:=fun x=>by simp
  have tt:∀c,l25_text (n+4) c=some (tx c):=fun c=>tx_val (n+3) c
  rw[l25_lives_eq,q0,obs,oelim_some,q1,obs,oelim_none]
  have b0:(!decide ((0:Int)=0))=false:=rfl
  have b1:(!decide ((1:Int)=1))=false:=rfl
  have i0:decide ((0:Int)=0)=true:=rfl
  have i1:decide ((1:Int)=1)=true:=rfl
  have i14:decide ((14:Int)=14)=true:=rfl
  have i2:decide ((2:Int)=2)=true:=rfl
  have il:decide ((([]:List Chg).length:Int)=0)=true:=rfl
  simp only[b0,b1,tif_ite,Bool.false_eq_true,if_false,tt,obs,w1,w2,w3,w4,w5,w6,w7,w8,w9,w10,w11,w12,w13,w14,w15,w16,i0,i1,i14,i2,il,te,if_true,decide_true,Bool.not_true]
end Go.Proofs.Ytghegadegcemjaa
