/-
 text.lines, known by hand: its walk at this seat, and its contract. Printed by tools/tl.py.
-/
import Derived.RangeFuncBox
import Derived.RangeFuncLeaves
import Derived.RangeFuncWrites
import Derived.Shelf.Abstract
import Derived.WalkKit
import Derived.OwnWalkIn
import Derived.TacticsInMore
import Derived.LoopNIn
import Derived.LoopIn
import Derived.Test.YtjionkknnajjgaaGreatDoorRows
import Derived.KernelRfl
import Derived.RangeFuncNested
import Derived.BigRegionIn
import Derived.Test.YtjionkknnajjgaaGreatDoorSh
import Derived.Test.YtjionkknnajjgaaGreatDoorTlP
set_option linter.unusedVariables false
set_option linter.unusedSimpArgs false
namespace Go.Proofs.YtjionkknnajjgaaGreatDoor
section
open Go Go.RowKit Go.Shelf Go.Proofs
attribute [local go_sem] Oper.semAt_some
def TlInv (J:Nat→World→Go.Flat.Fz→Prop) (Bs:Nat) (W1:World) (F1:Go.Flat.Fz) (xs:List (List UInt8)) (s:ByteArray) (k:Nat) (fuel:Nat) (wr:World):Prop :=
 Boxed wr Bs 9 (.string s)∧∃FA,J k wr FA∧Go.Flat.Later W1 F1 wr FA∧(∀b,FA b→b<wr.heap.size)∧¬FA Bs∧xs.drop k=Go.Flat.g0v fuel s.data.toList∧s.data.toList.length<fuel∧k≤xs.length
theorem tl_len {J:Nat→World→Go.Flat.Fz→Prop} {xs:List (List UInt8)} {k:Nat} {W:World} {FA:Go.Flat.Fz} (h:xs.length≤k) (hk:k≤xs.length) (hj:J k W FA):J xs.length W FA:=by
 have:k=xs.length:=by omega
 rw[←this];exact hj
theorem tl_turn {Bs m:Nat} {v:Value} {wr:World} {FA:Go.Flat.Fz} (hFB:¬FA Bs) (hF:∀b,FA b→b<wr.heap.size):Go.Flat.Turn [Bs] wr FA ((wr.drewN m).setCell ⟨Bs,0,none⟩ v) FA:=by
 have g:=grownBy_setCell' (wr.drewN m) Bs v;exact ⟨⟨g.os,g.tape,g.output,g.size,fun b hb=>g.block b (hF b hb) (fun e=>hFB (by cases e;exact hb)),fun _ h=>h⟩,fun b hb hn=>g.block b hb (fun e=>hn (by cases e;simp)),fun b h => .inl h⟩
theorem tl_short {s:List UInt8} (h:s≠[]):(Lib.cut s [10]).2.1.length<s.length:=by
 have:=List.length_pos_iff.2 h;unfold Lib.cut;split
 ·simp;omega
 ·simpa using this
set_option maxRecDepth 100000 in
set_option maxHeartbeats 4000000 in
theorem tl_run (F:Fence) (n:Nat) (h60:F.fn 62) (h23:F.fn 55) (h61:F.fn 63) (hro:F.round=none) (hn:1≤n) (l Bs:Nat) (xs:List (List UInt8)) (J:Nat→World→Go.Flat.Fz→Prop) (W1:World) (F1:Go.Flat.Fz)
  (hcut:∀(s:ByteArray) (W:World) FA,Go.Flat.Later W1 F1 W FA→s.size<4294967281→CallsIn F (n-1) Tryz.prog 55 #[.string s,.string ⟨#[10]⟩] W fun e w' =>
   e = .returned (.tuple #[.string ⟨(Lib.cut s.data.toList [10]).1.toArray⟩,.string ⟨(Lib.cut s.data.toList [10]).2.1.toArray⟩,.bool (Lib.cut s.data.toList [10]).2.2])∧∃n,w'=W.drewN n)
  (hpre:∀(s:ByteArray) (W:World),CallsIn F (n-1) Tryz.prog 63 #[.string s,.string ⟨#[35]⟩] W fun e w'=>e = .returned (.bool (Lib.hasPrefix s.data.toList [35]))∧w'=W)
  (hJ:∀k A FA B FB,J k A FA→Go.Flat.Turn [Bs] A FA B FB→J k B FB)
  (hY:∀k y A FA,xs[k]? = some y→J k A FA→Go.Flat.Later W1 F1 A FA→(∀b,FA b→b<A.heap.size)→YieldAt F (n-1) Tryz.prog l #[.string ⟨y.toArray⟩] A fun en A' =>
   en = .returned (.bool true)∧∃FA',J (k+1) A' FA'∧Go.Flat.Later A FA A' FA'∧(∀b,FA' b→b<A'.heap.size)∧A'.heap[Bs]? = A.heap[Bs]? ∧ ¬FA' Bs)
  (s:ByteArray) (hs:s.size<4294967281) (h0:TlInv J Bs W1 F1 xs s 0 (s.data.toList.length+1) W1) :
  CallsIn F n Tryz.prog 62 #[.func (.yield l) #[] #[],.pointer (some ⟨Bs,0,none⟩)] W1 fun e W'=>(∃v,e = .returned v)∧∃F',J xs.length W' F':=by
 refine callsIn_of_wp Tryz.func62 rfl h60 ?_ hro;simp only[Tryz.ntmps62,List.size_toArray,List.length_cons,List.length_nil,Nat.reduceAdd,Nat.reduceSub,Array.replicate_succ,Array.replicate_zero,List.push_toArray,List.append_toArray,List.nil_append,List.cons_append]
 gi_wp2
 gi_loopw [] (fun wr=>∃(s:ByteArray) (k fuel:Nat),s.size<4294967281∧TlInv J Bs W1 F1 xs s k fuel wr)
  (fun w=>match w.cell? ⟨Bs,0,none⟩ with | some (.string s)=>s.size | _=>0)
 case atStart=>exact ⟨s,0,_,hs,h0⟩
 case round =>
  obtain ⟨s,k,fuel,hs,hb,FA,hj,hlat,hF,hFB,hxs,hfu,hkx⟩:=hrel;have hc:=hb.cell;have hfz:=hb.frozen;have hsz:s.data.toList.length=s.size:=(Lib.size_eq s).symm;obtain ⟨fuel,rfl⟩:∃f,fuel=f+1:=⟨fuel-1,by omega⟩;by_cases he:s.data.toList=[]
  ·have hse:s=⟨#[]⟩:=by
    obtain ⟨d⟩:=s;simp at he;rw[he]
   subst hse
   gi_wp2
   go_end0
   have hlen:xs.length≤k:=by
    have:xs.drop k=[]:=hxs
    simpa using this
   exact ⟨⟨_,rfl⟩,FA,tl_len hlen hkx hj⟩
  ·have hne:¬s=⟨#[]⟩:=fun e=>he (by rw[e])
   have hemp:s.toList.isEmpty=false:=by
    rw[←decide_eq_emptyBytes];exact decide_eq_false hne
   have hsh:=tl_short he;unfold Go.Flat.g0v at hxs;rw[if_neg he] at hxs;obtain ⟨a,b,f,hcu⟩:∃a b f,Lib.cut s.data.toList [10]=(a,b,f):=⟨_,_,_,rfl⟩;have hC:=hcut s wr FA hlat hs;rw[hcu] at hC hxs hsh;dsimp only at hC hxs hsh;have hP:=hpre ⟨a.toArray⟩;have hbs:(⟨b.toArray⟩:ByteArray).size=b.length:=by simp[Lib.size_eq]
   have hT:=fun m=>tl_turn (m:=m) (v := .string ⟨b.toArray⟩) hFB hF
   have hB2:∀m,Boxed ((wr.drewN m).setCell ⟨Bs,0,none⟩ (.string ⟨b.toArray⟩)) Bs 9 (.string ⟨b.toArray⟩):=fun m=>Boxed.set (W:=wr.drewN m) _ hb
   have skip:Go.Flat.p0f a=false→∀m,TlInv J Bs W1 F1 xs ⟨b.toArray⟩ k fuel ((wr.drewN m).setCell ⟨Bs,0,none⟩ (.string ⟨b.toArray⟩)):=fun hno m=>by
    rw[hno] at hxs;exact ⟨hB2 m,FA,hJ _ _ _ _ _ hj (hT m),hlat.trans (hT m).later,fun q hq=>Nat.lt_of_lt_of_le (hF q hq) (hT m).later.size,hFB,by simpa using hxs,by show b.length<_;omega,hkx⟩
   have meas:∀W:World,Boxed W Bs 9 (.string ⟨b.toArray⟩)→(match W.cell? ⟨Bs,0,none⟩ with | some (.string s)=>s.size | _=>0)<(match wr.cell? ⟨Bs,0,none⟩ with | some (.string s)=>s.size | _=>0):=fun W hW=>by
    rw[hW.cell,hc];show (⟨b.toArray⟩:ByteArray).size<s.size;omega
   by_cases ha:a=[]
   ·subst ha
    gi_wp2_with (first
     | (gi_at_call 55;refine hC.mono ?_;rintro e w' ⟨rfl,m,rfl⟩)
     | (gi_at_call 63;refine (hP _).mono ?_;rintro e w' ⟨rfl,rfl⟩))
    refine ⟨(fun f h=>by cases h),?_⟩
    gi_wp2
    go_roundw
    case rel=>exact ⟨_,k,fuel,by omega,skip rfl m⟩
    case measure=>exact meas _ (hB2 m)
   ·have hea:(⟨a.toArray⟩:ByteArray).toList.isEmpty=false:=by
     rw[←decide_eq_emptyBytes];exact decide_eq_false fun e=>ha (by simpa using congrArg (fun x=>x.data.toList) e)
    have hP1:∀(W:World),CallsIn F (n-1) Tryz.prog 63 #[.string ⟨a.toArray⟩,.string ⟨#[35]⟩] W fun e w'=>e = .returned (.bool (Lib.hasPrefix a [35]))∧w'=W:=hP
    by_cases hp:Lib.hasPrefix a [35]=true
    ·rw[hp] at hP1
     gi_wp2_with (first
      | (gi_at_call 55;refine hC.mono ?_;rintro e w' ⟨rfl,m,rfl⟩)
      | (gi_at_call 63;refine (hP1 _).mono ?_;rintro e w' ⟨rfl,rfl⟩))
     refine ⟨(fun f h=>by cases h),?_⟩
     gi_wp2
     go_roundw
     case rel=>exact ⟨_,k,fuel,by omega,skip (by simp[Go.Flat.p0f,hp]) m⟩
     case measure=>exact meas _ (hB2 m)
    ·have hp:Lib.hasPrefix a [35]=false:=by simpa using hp
     rw[hp] at hP1;have hok:Go.Flat.p0f a=true:=by simp[Go.Flat.p0f,ha,hp]
     rw[hok] at hxs;have hxk:xs[k]? = some a:=by
      have:=congrArg (fun l=>l[0]?) hxs
      simpa using this
     have hxs1:xs.drop (k+1)=Go.Flat.g0v fuel b:=by
      have:=congrArg List.tail hxs
      simpa using this
     have hkl:k<xs.length:=(List.getElem?_eq_some_iff.1 hxk).1;have hYm:=fun m=>hY k a _ FA hxk (hJ _ _ _ _ _ hj (hT m)) (hlat.trans (hT m).later) (fun q hq=>Nat.lt_of_lt_of_le (hF q hq) (hT m).later.size)
     gi_wp2_with (first
      | (gi_at_call 55;refine hC.mono ?_;rintro e w' ⟨rfl,m,rfl⟩;obtain ⟨fn,tmps,asg,body,hy,hR⟩:=hYm m)
      | (gi_at_call 63;refine (hP1 _).mono ?_;rintro e w' ⟨rfl,rfl⟩))
     refine hR.mono ?_;rintro e W3 ⟨rfl,FA',j1,j2,j3,j4,j5⟩
     gi_wp2
     have hB3:Boxed W3 Bs 9 (.string ⟨b.toArray⟩):=j4.trans (hB2 m)
     go_roundw
     case rel=>exact ⟨⟨b.toArray⟩,k+1,fuel,by omega,hB3,FA',j1,(hlat.trans (hT m).later).trans j2,j3,j5,hxs1,(by show b.length<_;omega),hkl⟩
     case measure=>exact meas _ hB3
end
end Go.Proofs.YtjionkknnajjgaaGreatDoor
namespace Go.Proofs.YtjionkknnajjgaaGreatDoor
section
open Go Go.RowKit Go.Shelf Go.Proofs
attribute [local go_sem] Oper.semAt_some
set_option maxHeartbeats 1000000 in
theorem tl_lines (F:Fence) (n:Nat) (h36:F.fn 32) (hro:F.round=none) (s:ByteArray) (w:World) :
  CallsIn F n Tryz.prog 32 #[.string s] w fun e w'=>e = .returned (.func (.func 62) #[] #[.pointer (some ⟨w.heap.size,0,none⟩)])∧w'=w.alloc (.cells #[.string s] 9):=by
 refine callsIn_of_wp Tryz.func32 rfl h36 ?_ hro;simp only[Tryz.ntmps32,List.size_toArray,List.length_cons,List.length_nil,Nat.reduceAdd,Nat.reduceSub,Array.replicate_succ,Array.replicate_zero,List.push_toArray,List.append_toArray,List.nil_append,List.cons_append]
 gi_wp2
 go_ret
 exact ⟨rfl,rfl⟩
end
section
open Go.Flat Go.Shelf Go.RowKit Go.Proofs
set_option maxRecDepth 100000 in
theorem hc_lines {G:World→Fz→Prop} (hg:∀W F,G W F→F (Tryz.lays145_ren.g 1)∧r0u 1 (W.cell? ⟨Tryz.lays145_ren.g 1,0,none⟩)) :
  h0b Tryz.prog G 32 ⟨[.str],[.seq (.pair .str .unit)],[]⟩ (fun x=>a1u x.1):=by
 intro x y hy W F O vs hG hF hf hx hO hOF;obtain ⟨v,us,O1,O2,rfl,rfl,⟨rfl,hv⟩,hf2,hx2⟩:=k0z rfl rfl hf hx
 match us,hf2 with
 | [],_ =>
 have hO2:O2=[]:=hx2;subst hO2;simp only[List.append_nil] at hO hOF ⊢;have hv:v = .string ⟨x.1.toArray⟩:=by simpa [Rd,RdP] using hv
 subst hv;dsimp only at hy;unfold a1u at hy;rw[c0r] at hy;split at hy
 case isFalse=>cases hy
 rename_i hcond;have hlen:x.1.length<4294967281:=by simpa using hcond
 injection hy with hy;obtain ⟨hgF,m,hm⟩:=hg W F hG;refine (callsIn_wide.1 (tl_lines Fence.wide 0 trivial rfl ⟨x.1.toArray⟩ W)).mono ?_;rintro e W' ⟨rfl,rfl⟩;have hlat:Later W F (W.alloc (.cells #[.string ⟨x.1.toArray⟩] 9)) F:=⟨rfl,rfl,rfl,by simp,fun b hb=>Below.heap_alloc _ _ _ (hF b hb),fun _ h=>h⟩;refine ⟨_,F,rfl,⟨hlat,fun b hb _=>Below.heap_alloc _ _ _ hb,fun b hb => .inl hb⟩,[_],[W.heap.size],⟨⟨(fun e=>by cases e),(fun _=>rfl),rfl⟩,trivial⟩,rfl,?_,by simp,fun b hb h => ?_,fun b hb => .inr ?_⟩
 ·show ∃v,_=some v∧b1t Tryz.prog (.pair .str .unit) y _ F [W.heap.size] v;refine ⟨_,rfl,62,#[.pointer (some ⟨W.heap.size,0,none⟩)],rfl,⟨_,Tryz.func62,rfl,rfl⟩,fun b hb => ?_,?_⟩
  ·simp at hb;subst hb;simp
  ·intro l J W1 F1 hl hbs hF1 hbF hJ hround h0;have hB:Boxed W1 W.heap.size 9 (.string ⟨x.1.toArray⟩):=(hbs _ (by simp)).trans (Boxed.new W 9 _);subst hy;refine (callsIn_wide (n:=1)).1 ((tl_run Fence.wide 1 trivial trivial trivial rfl (Nat.le_refl _) l W.heap.size (g0v (x.1.length+1) x.1) J W1 F1 ?_ ?_ hJ ?_ ⟨x.1.toArray⟩ (by rw[j0v];exact hlen)
    ⟨hB,F1,h0,Later.refl W1 F1,hF1,hbF _ (by simp),rfl,Nat.lt_succ_self _,Nat.zero_le _⟩).mono ?_)
   ·intro s A FA hA hs;have hc:A.cell? ⟨Tryz.lays145_ren.g 1,0,none⟩=some (.int .i64 m):=by
     rw[((hlat.trans hl).trans hA).cell hgF];exact hm
    exact callsIn_wide.2 (Any.strings_Cut Tryz.lays145 s ⟨#[10]⟩ m A hs hc)
   ·intro s A;exact callsIn_wide.2 (Any.strings_HasPrefix Tryz.lays99 s ⟨#[35]⟩ A)
   ·intro k y A FA hk hj hA hFA;refine (hround k (y,()) A FA [.string ⟨y.toArray⟩] (by rw[List.getElem?_map,hk];rfl) hj hA hFA ⟨_,[],rfl,⟨(fun e=>by cases e),(fun _=>rfl),rfl⟩,?_,rfl⟩).mono ?_
    ·show one _ 0=_;rfl
    ·rintro en A' ⟨rfl,FA',q1,q2,q3,q4,q5⟩;exact ⟨rfl,FA',q1,q2,q3,q4 _ (by simp),q5 _ (by simp)⟩
   ·rintro en A' ⟨hr,F',hj⟩;exact ⟨hr,F',by rw[List.length_map];exact hj⟩
 ·simp at hb;subst hb;have:=hF _ h;omega
 ·simp at hb;subst hb;exact Nat.le_refl _
end
end Go.Proofs.YtjionkknnajjgaaGreatDoor
