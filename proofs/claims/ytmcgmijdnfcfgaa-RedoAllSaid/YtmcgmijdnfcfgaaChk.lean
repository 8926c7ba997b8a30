/-
 slices.Chunk, known by hand: its walks at this seat, and its contracts. Printed by tools/chk.py.
-/
import Derived.RangeFuncBox
import Derived.RangeFuncLeaves
import Derived.RangeFuncWrites
import Derived.Shelf.Abstract
import Derived.WalkKit
import Derived.OwnWalkIn
import Derived.TacticsInMore
import Derived.LoopNIn
import Derived.LoopIn
import Derived.Test.YtmcgmijdnfcfgaaRows
import Derived.KernelRfl
import Derived.RangeFuncNested
import Derived.BigRegionIn
import Derived.Test.YtmcgmijdnfcfgaaChkP
import Derived.Test.YtmcgmijdnfcfgaaCx
set_option linter.unusedVariables false
set_option linter.unusedSimpArgs false
namespace Go.Proofs.Ytmcgmijdnfcfgaa
section
open Go Go.RowKit Go.Shelf Go.Proofs
attribute [local go_sem] Oper.semAt_some
def l1o (J:Nat→World→Go.Flat.Fz→Prop) (Bs Bn:Nat) (v:Value) (m:Int) (W1:World) (F1:Go.Flat.Fz) (k:Nat) (wr:World):Prop :=
 Boxed wr Bs 48 v∧Boxed wr Bn 3 (.int .i64 m)∧∃FA,J k wr FA∧Go.Flat.Later W1 F1 wr FA∧(∀b,FA b→b<wr.heap.size)
set_option maxRecDepth 100000 in
set_option maxHeartbeats 4000000 in
theorem ck_run61 (F:Fence) (n:Nat) (hf:F.fn 72) (hro:F.round=none) (hn:1≤n) (l Bs Bn b off:Nat) (p:Option Addr) (len cap m K:Nat) (J:Nat→World→Go.Flat.Fz→Prop) (W1:World) (F1:Go.Flat.Fz)
  (hp:0<len→p=some ⟨b,off,none⟩) (hm:1≤m) (hlm:len+m≤4611686018427387904) (hcap:len≤cap) (hK:∀k,k<K↔k*m<len)
  (hJt:∀k A FA,J k A FA→J k A.drew FA)
  (hY:∀k i A FA,k*m=i→i<len→J k A FA→Go.Flat.Later W1 F1 A FA→(∀b,FA b→b<A.heap.size)→YieldAt F (n-1) Try.prog l #[.slice (some ⟨b,off+i*2,none⟩) (min m (len-i)) (min m (len-i))] A fun en A' =>
   en = .returned (.bool true)∧∃FA',J (k+1) A' FA'∧Go.Flat.Later A FA A' FA'∧(∀b,FA' b→b<A'.heap.size)∧A'.heap[Bs]? = A.heap[Bs]? ∧ A'.heap[Bn]? = A.heap[Bn]?)
  (h0:l1o J Bs Bn (.slice p len cap) (m:Int) W1 F1 0 W1) :
  CallsIn F n Try.prog 72 #[.func (.yield l) #[] #[],.pointer (some ⟨Bs,0,none⟩),.pointer (some ⟨Bn,0,none⟩)] W1 fun e W'=>(∃v,e = .returned v)∧∃F',J K W' F':=by
 refine callsIn_of_wp Try.func72 rfl hf ?_ hro;simp only[Try.ntmps72,List.size_toArray,List.length_cons,List.length_nil,Nat.reduceAdd,Nat.reduceSub,Array.replicate_succ,Array.replicate_zero,List.push_toArray,List.append_toArray,List.nil_append,List.cons_append]
 gi_wp2
 gi_loopw [4] (fun i wr=>∃(k j:Nat) (z:Int),k≤K∧k*m=j∧i = .int .i64 z∧z=(j:Int)∧l1o J Bs Bn (.slice p len cap) (m:Int) W1 F1 k wr)
  (fun i _=>(len+m-(intOf i).toNat))
 case atStart=>exact ⟨0,0,0,Nat.zero_le _,by simp,rfl,rfl,h0⟩
 case round =>
  obtain ⟨k,j,z,hk,hj,rfl,hz,hbs,hbn,FA,hJ,hlat,hF⟩:=hrel;have hc:=hbs.cell;have hcn:=hbn.cell;by_cases hlt:j<len
  ·have hpp:=hp (by omega);subst hpp;have hz1:z<(len:Int):=by omega
   obtain ⟨fn,tmps,assign,body,hy,hR⟩:=hY k j wr.drew FA hj hlt (hJt k wr FA hJ) ⟨hlat.os,hlat.tape,hlat.output,hlat.size,hlat.keep,hlat.more⟩ hF;subst hz;clear hY h0 hp;have hcd:wr.drew.cell? ⟨Bs,0,none⟩=some (.slice (some ⟨b,off,none⟩) len cap):=hc;have hcnd:wr.drew.cell? ⟨Bn,0,none⟩=some (.int .i64 (m:Int)):=hcn
   gi_wp2
   obtain ⟨e,he⟩:∃e,min m (len-j)=e:=⟨_,rfl⟩;have he1:min (m:Int) ((len-j:Nat):Int)=(e:Int):=by omega
   have he2:1≤e:=by omega
   have he3:j+e≤len:=by omega
   have he4:j+e-j=e:=by omega
   rw[he] at hy
   try simp only[Nat.mul_one] at hy
   gi_region
   all_goals first | rw[he] | rw[he1] | skip
   all_goals gi_wp2
   all_goals refine hR.mono ?_
   all_goals rintro e' W3 ⟨rfl,FA',j1,j2,j3,j4,j5⟩
   all_goals have hbs3:Boxed W3 Bs 48 (.slice (some ⟨b,off,none⟩) len cap):=j4.trans hbs
   all_goals have hbn3:Boxed W3 Bn 3 (.int .i64 (m:Int)):=j5.trans hbn
   all_goals have hc3:=hbs3.cell
   all_goals have hcn3:=hbn3.cell
   all_goals have hkm:(k+1)*m=j+m:=by rw[Nat.add_mul,hj,Nat.one_mul]
   all_goals have hk1:k+1≤K:=(hK k).2 (by rw[hj];exact hlt)
   all_goals have hlat3:Go.Flat.Later W1 F1 W3 FA':=(show Go.Flat.Later W1 F1 wr.drew FA from ⟨hlat.os,hlat.tape,hlat.output,hlat.size,hlat.keep,hlat.more⟩).trans j2
   all_goals clear hc hcn hcd hcnd hbs hbn
   all_goals gi_wp2
   all_goals go_roundw
   all_goals first
    | exact ⟨k+1,j+m,_,hk1,hkm,rfl,by simp,hbs3,hbn3,FA',j1,hlat3,j3⟩
    | (simp only[intOf];omega)
  ·have hz1:¬z<(len:Int):=by omega
   clear hz
   gi_wp2
   go_end0
   have:k=K:=by
    have:¬k<K:=fun h=>hlt (by rw[←hj];exact (hK k).1 h)
    omega
   exact ⟨⟨_,rfl⟩,FA,this ▸ hJ⟩
end
section
open Go Go.RowKit Go.Shelf Go.Proofs
attribute [local go_sem] Oper.semAt_some
set_option maxHeartbeats 1000000 in
theorem ck_new61 (F:Fence) (n:Nat) (hf:F.fn 61) (hro:F.round=none) (p:Option Addr) (len cap:Nat) (m:Int) (hm:¬m<1) (w:World) :
  CallsIn F n Try.prog 61 #[.slice p len cap,.int .i64 m] w fun e w'=>e = .returned (.func (.func 72) #[] #[.pointer (some ⟨w.heap.size,0,none⟩),.pointer (some ⟨w.heap.size+1,0,none⟩)])∧w'=(w.alloc (.cells #[.slice p len cap] 48)).alloc (.cells #[.int .i64 m] 3):=by
 refine callsIn_of_wp Try.func61 rfl hf ?_ hro;simp only[Try.ntmps61,List.size_toArray,List.length_cons,List.length_nil,Nat.reduceAdd,Nat.reduceSub,Array.replicate_succ,Array.replicate_zero,List.push_toArray,List.append_toArray,List.nil_append,List.cons_append]
 gi_wp2
 go_ret
 exact ⟨rfl,rfl⟩
end
section
open Go.Flat Go.Shelf Go.RowKit Go.Proofs
theorem f1t {G:World→Fz→Prop} :
  l0e Try.prog G 61 ⟨[.slice a0a,.int .i64],[.seq (.pair (.slice a0a) .unit)],[]⟩ (fun x=>q0x x.1 x.2.1):=by
 intro x y hy _ W F O vs hG hF hf hx hO hOF;obtain ⟨v,us,O1,O2,rfl,rfl,⟨rfl,hv⟩,hf2,hx2⟩:=n0f rfl rfl hf hx;obtain ⟨v2,us2,O3,O4,rfl,rfl,⟨rfl,hv2⟩,hf3,hx3⟩:=n0f rfl rfl hf2 hx2
 match us2,hf3 with
 | [],_ =>
 have hO4:O4=[]:=hx3;subst hO4;simp only[List.append_nil] at hO hOF ⊢;obtain ⟨xs,m0,ux⟩:=x;dsimp only at hv hv2 hy;have hv2:v2 = .int .i64 m0:=by simpa [Rd,RdP] using hv2
 subst hv2;unfold q0x at hy;rw[f0t] at hy;split at hy
 case isFalse=>cases hy
 rename_i hcond;rw[Bool.and_eq_true,decide_eq_true_eq,decide_eq_true_eq] at hcond;obtain ⟨c1,c2⟩:=hcond;injection hy with hy;obtain ⟨m,rfl⟩:∃m:Nat,m0=(m:Int):=⟨Int.toNat m0,(Int.toNat_of_nonneg (a:=m0) (Int.le_trans (by decide) c1)).symm⟩;have hm:1≤m:=by have c1':(1:Int)≤(m:Int):=c1;omega
 have c2:((List.length xs:Nat):Int)+(m:Int)≤4611686018427387904:=c2;rw[Int.toNat_natCast] at hy;obtain ⟨p,cap,b,off,rfl,hcap,hp⟩:∃(p:Option Addr) (cap b off:Nat),v = .slice p xs.length cap∧xs.length≤cap ∧
   (0<xs.length→p=some ⟨b,off,none⟩∧F b∧∀i (h:i<xs.length),(RdP Try.prog a0a).1 xs[i] W F (mem W b (off+i*2))):=by
  rcases hv with ⟨hxs,a,ha⟩ | ⟨b,off,cap,ha,hb,hc,hr⟩
  ·have hxs:xs=[]:=hxs;subst hxs;exact ⟨a,0,0,0,by simpa using ha,Nat.le_refl _,fun h=>absurd h (by simp)⟩
  ·exact ⟨some ⟨b,off,none⟩,cap,b,off,by simpa using ha,hc,fun _=>⟨rfl,hb,hr⟩⟩
 refine (callsIn_wide.1 (ck_new61 Fence.wide 0 trivial rfl p xs.length cap (m:Int) (by omega) W)).mono ?_;rintro e W' ⟨rfl,rfl⟩;have hs0:(W.alloc (.cells #[.slice p xs.length cap] 48)).heap.size=W.heap.size+1:=by simp
 have hB1:Boxed ((W.alloc (.cells #[.slice p xs.length cap] 48)).alloc (.cells #[.int .i64 (m:Int)] 3)) W.heap.size 48 (.slice p xs.length cap):=by
  have:=Boxed.new W 48 (.slice p xs.length cap);exact (Below.heap_alloc _ _ _ (by rw[hs0];omega)).trans this
 have hB2:Boxed ((W.alloc (.cells #[.slice p xs.length cap] 48)).alloc (.cells #[.int .i64 (m:Int)] 3)) (W.heap.size+1) 3 (.int .i64 (m:Int)):=by
  have:=Boxed.new (W.alloc (.cells #[.slice p xs.length cap] 48)) 3 (.int .i64 (m:Int));rw[hs0] at this;exact this
 obtain ⟨Wn,hWn⟩:∃Wn,Wn=(W.alloc (.cells #[.slice p xs.length cap] 48)).alloc (.cells #[.int .i64 (m:Int)] 3):=⟨_,rfl⟩;have hsz:Wn.heap.size=W.heap.size+2:=by rw[hWn];simp
 have hkeep:∀b,b<W.heap.size→Wn.heap[b]? = W.heap[b]? := fun b hb=>by
  rw[hWn];exact (Below.heap_alloc _ _ _ (by rw[hs0];omega)).trans (Below.heap_alloc _ _ _ hb)
 have hlat:Later W F Wn F:=⟨by rw[hWn];rfl,by rw[hWn];rfl,by rw[hWn];rfl,by omega,fun b hb=>hkeep b (hF b hb),fun _ h=>h⟩;rw[←hWn] at hB1 hB2 ⊢;refine ⟨_,F,rfl,⟨hlat,fun b hb _=>hkeep b hb,fun b hb => .inl hb⟩,[_],[W.heap.size,W.heap.size+1],⟨⟨(fun e=>by cases e),(fun _=>rfl),rfl⟩,trivial⟩,rfl,?_,by simp,fun b hb h => ?_,fun b hb => .inr ?_⟩
 ·show ∃v,_=some v∧u0b Try.prog (.pair (.slice a0a) .unit) y Wn F [W.heap.size,W.heap.size+1] v;refine ⟨_,rfl,72,#[.pointer (some ⟨W.heap.size,0,none⟩),.pointer (some ⟨W.heap.size+1,0,none⟩)],rfl,⟨_,Try.func72,rfl,rfl⟩,fun b hb => ?_,?_⟩
  ·simp at hb;omega
  ·intro l J W1 F1 hl hbs hF1 hbF hJ hround h0;have g1:Boxed W1 W.heap.size 48 (.slice p xs.length cap):=(hbs _ (by simp)).trans hB1;have g2:Boxed W1 (W.heap.size+1) 3 (.int .i64 (m:Int)):=(hbs _ (by simp)).trans hB2;subst hy;refine (callsIn_wide (n:=1)).1 ((ck_run61 Fence.wide 1 trivial rfl (Nat.le_refl _) l W.heap.size (W.heap.size+1) b off p xs.length cap m (i0u xs.length m xs).length J W1 F1
    (fun h=>(hp h).1) hm (by omega) hcap (g1e hm xs) (fun k A FA h=>hJ k A FA A.drew FA h ⟨⟨rfl,rfl,rfl,Nat.le_refl _,fun _ _=>rfl,fun _ h=>h⟩,fun _ _ _=>rfl,fun _ h => .inl h⟩) ?_
    ⟨g1,g2,F1,h0,Later.refl W1 F1,hF1⟩).mono ?_)
   ·intro k i A FA hki hi hj hA hFA;obtain ⟨_,hb,hr⟩:=hp (by omega);have hWA:Later W F A FA:=(hlat.trans hl).trans hA;have hlen:=k1n xs i m;refine (hround k ((xs.drop i).take m,()) A FA [.slice (some ⟨b,off+i*2,none⟩) (min m (xs.length-i)) (min m (xs.length-i))] ?_ hj hA hFA ⟨_,[],rfl,⟨(fun e=>by cases e),(fun _=>rfl),rfl⟩,?_,rfl⟩).mono ?_
    ·rw[List.getElem?_map,t0s hm _ _ (Nat.le_refl _),hki,if_pos hi];rfl
    ·show _∨_;refine .inr ⟨b,off+i*2,min m (xs.length-i),?_,hWA.more b hb,by rw[hlen];exact Nat.le_refl _,fun q hq => ?_⟩
     ·show some _=some _;rw[hlen];rfl
     ·have hq':i+q<xs.length:=by rw[hlen] at hq;omega
      have e1:=chunk_at xs i m q hq hq';have:=(RdP.later a0a hWA).1 _ _ (hr (i+q) hq');rw[e1];have e2:off+i*2+q*2=off+(i+q)*2:=by omega
      show (RdP Try.prog a0a).1 xs[i+q] A FA (mem A b (off+i*2+q*2));rw[e2];have e3:mem A b (off+(i+q)*2)=mem W b (off+(i+q)*2):=hWA.mem hb _;rw[e3];exact this
    ·rintro en A' ⟨rfl,FA',q1,q2,q3,q4,q5⟩;exact ⟨rfl,FA',q1,q2,q3,q4 _ (by simp),q4 _ (by simp)⟩
   ·rintro en A' ⟨hr,F',hj⟩;exact ⟨hr,F',by rw[List.length_map];exact hj⟩
 ·simp at hb;have:=hF _ h;omega
 ·simp at hb;omega
end
end Go.Proofs.Ytmcgmijdnfcfgaa
