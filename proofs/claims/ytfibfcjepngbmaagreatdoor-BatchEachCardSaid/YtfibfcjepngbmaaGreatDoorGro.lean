/-
 slices.Grow of a slice without elements, known by hand: the shelf's contract, laid at this seat. Printed by tools/gro.py.
-/
import Derived.Shelf.Spec.SlicesGrow
import Derived.KernelRfl
import Derived.Test.YtfibfcjepngbmaaGreatDoorRows
import Derived.Test.YtfibfcjepngbmaaGreatDoorFlatM4
set_option linter.unusedVariables false
set_option linter.unusedSimpArgs false
namespace Go.Flat
noncomputable def g2q {α:Type}(bytes:Nat)(xs:List α)(n:Int):Option (List α):=tif (decide (xs.length=0)&&(decide (0<=n)&&decide (n.toNat*bytes<=140737488355328))) (some []) none
end Go.Flat
namespace Go.Proofs.YtfibfcjepngbmaaGreatDoor
open Go.Flat Go.Shelf Go.RowKit Go.Proofs Go
def g1a:Ren:=⟨fun x=>match x with | 4=>64 | n=>n,fun x=>match x with | 22=>22 | 25=>46 | 3=>3 | 4=>4 | 9=>9 | 20=>20 | 0=>0 | n=>n,fun n=>n⟩
theorem grow64:Lays8.n4 Tryz.prog g1a :=
 { mixed := Eq.refl true,f4 := ⟨"slices.Grow[[]plimsoll/api.Row,plimsoll/api.Row]",of_decide_eq_true (id (Eq.refl true)),Eq.trans Tryz.func64 (by kernel_rfl)⟩,t0:=Tryz.underlying0,a0:=Tryz.isAgg0,z0:=Tryz.sizeOf0,v0:=Tryz.zeroValue0,t3:=Tryz.underlying3,a3:=Tryz.isAgg3,z3:=Tryz.sizeOf3,v3:=Tryz.zeroValue3,t4:=Tryz.underlying4,a4:=Tryz.isAgg4,z4:=Tryz.sizeOf4,v4:=Tryz.zeroValue4,t9:=Tryz.underlying9,a9:=Tryz.isAgg9,z9:=Tryz.sizeOf9,v9:=Tryz.zeroValue9,t20:=Tryz.underlying20,a20:=Tryz.isAgg20,z20:=Tryz.sizeOf20,v20:=Tryz.zeroValue20,t22:=Tryz.underlying22,a22:=Tryz.isAgg22,z22:=Tryz.sizeOf22,v22:=Tryz.zeroValue22 }
theorem growOk64:(match Tryz.prog.info? 46 with | some i=>(match i.zero with | some z=>Nat.beq i.size 5&&(Nat.beq i.bytes 56&&(Nat.beq z.cells.size 5&&z.cells.toList.all fun v=>v.oneCell')) | none=>false) | none=>false)=true:=by kernel_rfl
theorem b2d:∃i z,Tryz.prog.info? 46=some i/\i.zero=some z/\i.size=5/\i.bytes=56/\z.cells.size=5/\∀v∈z.cells.toList,v.oneCell'=true:=by
 have h:=growOk64;split at h
 case h_2=>cases h
 rename_i i hi;split at h
 case h_2=>cases h
 rename_i z hz;simp only[q1n] at h;obtain ⟨h1,h2,h3,h4⟩:=h;exact ⟨i,z,hi,hz,q2w h1,q2w h2,q2w h3,fun v hv=>List.all_eq_true.1 h4 v hv⟩
theorem b2c {W:World}{F:Fz}(hF:∀b,F b->b<W.heap.size){z:Array Value}(hz:z.size=5)(hz1:∀v∈z.toList,v.oneCell'=true)(cs:List Value){c n:Nat}(hcs:cs.length=c*5)(h1:∀v∈cs,v.oneCell'=true)(hn:c<0+n)(hmax:0+n<=maxLen)(T:TypeId) :
  i0l Tryz.prog (W.drew.alloc (.cells (cs.toArray++Builtin.zeroCells z (0+n-c)++Builtin.zeroCells z (grownCap W (0+n) c T-(0+n))) T)) F W.heap.size (grownCap W (0+n) c T) (.wrap (.pair (.slice (.wrap (.pair .str .str))) (.wrap (.pair (.int .i64) (.pair (.int .u64) (.pair (.int .i64) .bool)))))) []:=by
 have hge:=grownCap_ge W (0+n) c T;refine ⟨_,⟨(T,(0,0)),.inl rfl⟩,l0e W.drew _,?_,by simp,⟨grownCap_le_maxLen W _ c T hmax,by omega⟩,fun u hu => ?_,fun i hi=>by simp at hi⟩
 ·have e:width (.wrap (.pair (.slice (.wrap (.pair .str .str))) (.wrap (.pair (.int .i64) (.pair (.int .u64) (.pair (.int .i64) .bool))))))=5:=by kernel_rfl
  rw[e];simp only[Array.size_append,size_zeroCells,hz,List.size_toArray,hcs];rw[<-q3q,<-q3q];congr 1;omega
 ·simp only[Array.toList_append,q2n] at hu;rcases hu with (hu | hu) | hu
  ·exact h1 u hu
  ·exact l0a (n:=(0+n-c)*z.size) hz1 (by omega) u hu
  ·exact l0a (n:=(grownCap W (0+n) c T-(0+n))*z.size) hz1 (by omega) u hu
theorem b2a {G:World->Fz->Prop}:w0d Tryz.prog G 64 ⟨[.own (.wrap (.pair (.slice (.wrap (.pair .str .str))) (.wrap (.pair (.int .i64) (.pair (.int .u64) (.pair (.int .i64) .bool)))))),.int .i64],[.own (.wrap (.pair (.slice (.wrap (.pair .str .str))) (.wrap (.pair (.int .i64) (.pair (.int .u64) (.pair (.int .i64) .bool))))))],[]⟩ (fun x=>g2q 56 x.1 x.2.1):=by
 intro x y hy W F O vs hG hF hf hx hO hOF;obtain ⟨v,us,O1,O2,rfl,rfl,hv,hf2,hx2⟩:=z0s rfl rfl hf hx;obtain ⟨v2,us2,O3,O4,rfl,rfl,⟨rfl,hv2⟩,hf3,hx3⟩:=z0s rfl rfl hf2 hx2
 match us2,hf3 with
 | [],_ =>
 have hO4:O4=[]:=hx3;subst hO4;simp only[q2x] at hO hOF ⊢;obtain ⟨xs,m0,ux⟩:=x;dsimp only at hv hv2 hy;have hv2:v2 = .int .i64 m0:=by simpa [Rd,RdP] using hv2
 subst hv2;unfold g2q at hy;rw[a1h] at hy;split at hy
 case isFalse=>cases hy
 rename_i hcond;simp only[q1n,q2c] at hcond;obtain ⟨c1,c2,c3⟩:=hcond;injection hy with hy;subst hy;have hxs:xs=[]:=q2o c1;subst hxs;obtain ⟨n,rfl⟩:∃m:Nat,m0=(m:Int):=⟨Int.toNat m0,(Int.toNat_of_nonneg (a:=m0) c2).symm⟩;rw[q2i] at c3;have hn48:n<=140737488355328:=by omega
 obtain ⟨i0,z,hi0,hz0,hs0,hb0,hzs,hz1⟩:=b2d;have same:∀(p:Option Addr) (c:Nat) (O1:List Nat),O1.Nodup->(∀b∈O1,¬F b)->RdB Tryz.prog (.own (.wrap (.pair (.slice (.wrap (.pair .str .str))) (.wrap (.pair (.int .i64) (.pair (.int .u64) (.pair (.int .i64) .bool))))))) [] W F O1 (fun j=>if j=0 then some (.slice p 0 c) else none)->0+n<=c->c<=9223372036854775807 ->
   Calls Tryz.prog 64 #[.slice p 0 c,.int .i64 n] W fun e W'=>∃v F',e = .returned v/\Go.Flat.Move W F O1 W' F'/\Ret Tryz.prog W O1 ⟨[.own (.wrap (.pair (.slice (.wrap (.pair .str .str))) (.wrap (.pair (.int .i64) (.pair (.int .u64) (.pair (.int .i64) .bool)))))),.int .i64],[.own (.wrap (.pair (.slice (.wrap (.pair .str .str))) (.wrap (.pair (.int .i64) (.pair (.int .u64) (.pair (.int .i64) .bool))))))],[]⟩ [.slice p 0 c,.int .i64 n] (.own (.wrap (.pair (.slice (.wrap (.pair .str .str))) (.wrap (.pair (.int .i64) (.pair (.int .u64) (.pair (.int .i64) .bool))))))) [] W' F' v:=by
  intro p c O1 hO hOF hv hle hc;refine (Any8.slices_Grow_room grow64 p 0 c n W (by omega) hc (by omega) hle).mono ?_;rintro e W' ⟨rfl,rfl⟩;exact ⟨_,F,rfl,⟨Later.refl _ _,fun _ _ _=>rfl,fun _ h => .inl h⟩,[_],O1,⟨⟨(fun e=>by cases e),(fun _=>rfl),rfl⟩,trivial⟩,rfl,hv,hO,hOF,fun _ h => .inl h⟩
 have fresh:∀(p:Option Addr) (c:Nat) (O1:List Nat) (cs:List Value),cs.length=c*5->(∀v∈cs,v.oneCell'=true)->(p=none->c=0)->(∀a,p=some a->∀j v,cs[j]? = some v->W.cell? (a.add j)=some v)->c<0+n ->
   Calls Tryz.prog 64 #[.slice p 0 c,.int .i64 n] W fun e W'=>∃v F',e = .returned v/\Go.Flat.Move W F O1 W' F'/\Ret Tryz.prog W O1 ⟨[.own (.wrap (.pair (.slice (.wrap (.pair .str .str))) (.wrap (.pair (.int .i64) (.pair (.int .u64) (.pair (.int .i64) .bool)))))),.int .i64],[.own (.wrap (.pair (.slice (.wrap (.pair .str .str))) (.wrap (.pair (.int .i64) (.pair (.int .u64) (.pair (.int .i64) .bool))))))],[]⟩ [.slice p 0 c,.int .i64 n] (.own (.wrap (.pair (.slice (.wrap (.pair .str .str))) (.wrap (.pair (.int .i64) (.pair (.int .u64) (.pair (.int .i64) .bool))))))) [] W' F' v:=by
  intro p c O1 cs hcs hone hnil hcell hlt;have hmax:0+n<=maxLen:=by simp only[maxLen];omega
  refine (Any8.slices_Grow_grow grow64 i0 z hi0 hz0 (by rw[hs0];decide) p 0 c n cs W (by omega) hlt (by rw[hb0,Nat.zero_add];exact c3) (by omega) (by rw[hs0];exact hcs) hnil hcell).mono ?_;rintro e W' ⟨rfl,rfl⟩;have hA:=b2c hF hzs hz1 cs hcs hone hlt hmax (g1a.t 25);refine ⟨_,F,rfl,⟨⟨rfl,rfl,rfl,by simp,fun b hb=>h0e W.drew _ b (hF b hb),fun _ h=>h⟩,fun b hb _=>h0e W.drew _ b hb,fun _ h => .inl h⟩,[_],[W.heap.size],⟨⟨(fun e=>by cases e),(fun _=>rfl),rfl⟩,trivial⟩,rfl,?_,by simp,fun b hb h => ?_,fun b hb => .inr ?_⟩
  ·exact .inr ⟨W.heap.size,_,rfl,hA,rfl⟩
  ·simp at hb;subst hb;have:=hF _ h;omega
  ·simp at hb;omega
 rcases hv with ⟨_,rfl,p,hp⟩ | ⟨b,cap,hp,⟨cs,T,hW,hsz,hle,⟨hm1,hm2⟩,hone,hrd⟩,rfl⟩
 ·have hp:v = .slice p 0 0:=by simpa using hp
  subst hp;by_cases h0:n=0
  ·exact same p 0 [] (by simp) (by simp) (.inl ⟨rfl,rfl,p,rfl⟩) (by omega) (by omega)
  ·exact fresh p 0 [] [] (by simp) (by simp) (fun _=>rfl) (fun _ _ j v h=>by simp at h) (by omega)
 ·have hp:v = .slice (some ⟨b,0,none⟩) 0 cap:=by simpa using hp
  subst hp;have hm1:cap<=9223372036854775807:=hm1;by_cases h0:0+n<=cap
  ·exact same _ cap [b] (by simp) (fun k hk=>hOF k (by simp at hk ⊢;exact hk)) (.inr ⟨b,cap,rfl,⟨cs,T,hW,hsz,hle,⟨hm1,hm2⟩,hone,hrd⟩,rfl⟩) h0 hm1
  ·refine fresh _ cap [b] cs.toList (by rw[Array.length_toList,hsz];rfl) hone (fun e=>by cases e) (fun a ha j v hj => ?_) (by omega);cases ha;rw[addr_add];simp only[World.cell?,hW,Nat.zero_add];rw[q2y] at hj;exact hj
end Go.Proofs.YtfibfcjepngbmaaGreatDoor
