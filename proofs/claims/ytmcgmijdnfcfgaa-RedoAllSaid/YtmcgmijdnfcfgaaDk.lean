/-
 disk.Read, known by hand: its walk at this seat (a range over slices.Backward), and its contract. Printed by tools/dk.py.
-/
import Derived.RangeFuncBox
import Derived.RangeFuncLeaves
import Derived.RangeFuncWrites
import Derived.Shelf.Abstract
import Derived.WalkKit
import Derived.OwnWalkIn
import Derived.TacticsInMore
import Derived.LoopNIn
import Derived.LoopIn
import Derived.Test.YtmcgmijdnfcfgaaRows
import Derived.KernelRfl
import Derived.RangeFuncNested
import Derived.BigRegionIn
import Derived.Test.YtmcgmijdnfcfgaaFlatM4
set_option linter.unusedVariables false
set_option linter.unusedSimpArgs false
namespace Go.Proofs.Ytmcgmijdnfcfgaa
section
open Go Go.RowKit Go.Shelf Go.Proofs
attribute [local go_sem] Oper.semAt_some
def d0s {α:Type} (f:Nat→α) (k:Nat):List α:=(List.range k).map f
theorem t0n {α:Type} (f:Nat→α) (k:Nat):d0s f (k+1)=d0s f k++[f k]:=by simp[d0s,List.range_succ]
theorem x0y {α:Type} (f:Nat→α) (k:Nat):(d0s f k).length=k:=by simp[d0s]
def dkEnc (x:Nat×Int×ByteArray):Array Value := #[.int .i64 (x.1:Int),.agg #[.int .i64 x.2.1,.string x.2.2]]
def dkAt (zs:List (Int×ByteArray)) (j:Nat):Nat×Int×ByteArray:=(zs.length-1-j,zs[zs.length-1-j]?.getD (0,⟨#[]⟩))
set_option maxRecDepth 100000 in
set_option maxHeartbeats 2000000 in
theorem dk_back1 (F:Fence) (n:Nat) (h44:F.fn 73) (hro:F.round=none) (hn:1≤n) (l Bs n₀ b cap:Nat) (zs:List (Int×ByteArray)) (hreach:zs.length≤9223372036854775807) (hb:b<n₀) (J Jx:List (Nat×Int×ByteArray)→World→Prop)
  (hY:∀pre x W,J pre W→pre.length<zs.length→YieldAt F (n-1) Try.prog l (dkEnc x) W fun e W' =>
   (e = .returned (.bool true)∧J (pre++[x]) W'∧Below n₀ W W')∨(e = .returned (.bool false)∧Jx (pre++[x]) W'))
  (W:World) (hBs:W.cell? ⟨Bs,0,none⟩=some (.slice (some ⟨b,0,none⟩) zs.length cap)) (hBs0:Bs<n₀)
  (hc:∀j,j<zs.length→W.cell? ⟨b,j*2,none⟩=some (.int .i64 (zs[j]?.getD (0,⟨#[]⟩)).1)∧W.cell? ⟨b,j*2+1,none⟩=some (.string (zs[j]?.getD (0,⟨#[]⟩)).2)) (h0:J [] W) :
  CallsIn F n Try.prog 73 #[.func (.yield l) #[] #[],.pointer (some ⟨Bs,0,none⟩)] W fun e W'=>(∃v,e = .returned v) ∧
   ((∃ys,ys=d0s (dkAt zs) zs.length∧J ys W')∨(∃pre,(∃k,k<zs.length∧pre=d0s (dkAt zs) (k+1))∧Jx pre W')):=by
 refine callsIn_of_wp Try.func73 rfl h44 ?_ hro;simp only[Try.ntmps73,List.size_toArray,List.length_cons,List.length_nil,Nat.reduceAdd,Nat.reduceSub,Array.replicate_succ,Array.replicate_zero,List.push_toArray,List.append_toArray,List.nil_append,List.cons_append]
 gi_wp2
 gi_loopw [3] (fun i wr=>∃(r:Nat) (z:Int),r≤zs.length∧i = .int .i64 z∧z=(r:Int)-1∧J (d0s (dkAt zs) (zs.length-r)) wr∧Below n₀ W wr)
  (fun i _=>(intOf i+1).toNat)
 case atStart=>exact ⟨zs.length,_,Nat.le_refl _,rfl,rfl,by simpa [d0s] using h0,Below.refl _ _⟩
 case round =>
  obtain ⟨r,z,hr,rfl,hz,hJs,hnx⟩:=hrel;cases r with
  | zero =>
   have hzn:¬((0:Int)≤z):=by omega
   clear hz
   gi_wp2
   go_end0
   first | exact ⟨⟨_,rfl⟩,.inl ⟨_,rfl,by simpa using hJs⟩⟩ | exact ⟨⟨_,rfl⟩,.inl (by simpa using hJs)⟩ | exact .inl (by simpa using hJs)
  | succ r =>
   obtain rfl:z=(r:Int):=by omega
   obtain ⟨fn,tmps,assign,body,hy,hR⟩:=hY _ (dkAt zs (zs.length-(r+1))) wr hJs (by rw[x0y];omega);obtain ⟨hcx0,hcx1⟩:=hc r (by omega);have hat:dkAt zs (zs.length-(r+1))=(r,zs[r]?.getD (0,⟨#[]⟩)):=by
    unfold dkAt;have:zs.length-1-(zs.length-(r+1))=r:=by omega
    rw[this]
   rw[hat] at hy hR;obtain ⟨q,s,hq⟩:∃q s,zs[r]?.getD (0,⟨#[]⟩)=(q,s):=⟨_,_,rfl⟩;rw[hq] at hy hR hcx0 hcx1 hat;have hc0:wr.cell? ⟨b,r*2,none⟩=some (.int .i64 q):=(hnx.cell (p:=⟨b,r*2,none⟩) hb).trans hcx0;have hc1:wr.cell? ⟨b,r*2+1,none⟩=some (.string s):=(hnx.cell (p:=⟨b,r*2+1,none⟩) hb).trans hcx1;obtain ⟨len,hlen⟩:∃len,len=zs.length:=⟨_,rfl⟩;have hBr:wr.cell? ⟨Bs,0,none⟩=some (.slice (some ⟨b,0,none⟩) len cap):=by rw[hlen];exact (hnx.cell (p:=⟨Bs,0,none⟩) hBs0).trans hBs
   have hrl:r<len:=by omega
   unfold dkEnc at hy;dsimp only at hy;clear hcx0 hcx1 hc hBs hz
   gi_wp2
   refine hR.mono ?_;have hup:d0s (dkAt zs) (zs.length-r)=d0s (dkAt zs) (zs.length-(r+1))++[(r,(q,s))]:=by
    rw[←hat,←t0n];congr 1;omega
   rintro e W3 (⟨rfl,hJ3,hk3⟩ | ⟨rfl,hJx3⟩)
   ·gi_wp2
    go_roundw
    case rel=>exact ⟨r,(r:Int)-1,by omega,rfl,rfl,by rw[hup];exact hJ3,hnx.trans hk3⟩
    case measure=>simp[intOf]
   ·gi_wp2
    refine bodyPost_ret (results_none rfl _ _ _) rfl ?_;exact ⟨⟨_,rfl⟩,.inr ⟨_,⟨zs.length-(r+1),by omega,by rw[t0n,hat]⟩,hJx3⟩⟩
end
section
open Go Go.RowKit Go.Shelf Go.Proofs
attribute [local go_sem] Oper.semAt_some
set_option maxRecDepth 100000 in
set_option maxHeartbeats 1000000 in
theorem c1i (F:Fence) (n:Nat) (h44:F.fn 73) (hro:F.round=none) (l Bs:Nat) (a:Option Addr) (J:List (Nat×Int×ByteArray)→World→Prop) (W:World) (hBs:W.cell? ⟨Bs,0,none⟩=some (.slice a 0 0)) (h0:J [] W) :
  CallsIn F n Try.prog 73 #[.func (.yield l) #[] #[],.pointer (some ⟨Bs,0,none⟩)] W fun e W'=>(∃v,e = .returned v)∧J [] W':=by
 refine callsIn_of_wp Try.func73 rfl h44 ?_ hro;simp only[Try.ntmps73,List.size_toArray,List.length_cons,List.length_nil,Nat.reduceAdd,Nat.reduceSub,Array.replicate_succ,Array.replicate_zero,List.push_toArray,List.append_toArray,List.nil_append,List.cons_append]
 gi_wp2
 gi_loopw [3] (fun i wr=>∃z:Int,i = .int .i64 z∧z<0∧J [] wr) (fun _ _=>0)
 case atStart=>exact ⟨_,rfl,by decide,h0⟩
 case round =>
  obtain ⟨z,rfl,hz,hJs⟩:=hrel;have hzn:¬((0:Int)≤z):=by omega
  clear hz
  gi_wp2
  go_end0
  first | exact ⟨⟨_,rfl⟩,hJs⟩ | exact hJs
set_option maxHeartbeats 1000000 in
theorem c1h (F:Fence) (n:Nat) (h35:F.fn 63) (hro:F.round=none) (a:Option Addr) (len cap:Nat) (w:World) :
  CallsIn F n Try.prog 63 #[.slice a len cap] w fun e w'=>e = .returned (.func (.func 73) #[] #[.pointer (some ⟨w.heap.size,0,none⟩)])∧w'=w.alloc (.cells #[.slice a len cap] 48):=by
 refine callsIn_of_wp Try.func63 rfl h35 ?_ hro;simp only[Try.ntmps63,List.size_toArray,List.length_cons,List.length_nil,Nat.reduceAdd,Nat.reduceSub,Array.replicate_succ,Array.replicate_zero,List.push_toArray,List.append_toArray,List.nil_append,List.cons_append]
 gi_wp2
 go_ret
 exact ⟨rfl,rfl⟩
def DkCh (n₀:Nat) (W:World) (sv:Value) (zs:List (Int×ByteArray)):Prop :=
 (zs=[]∧∃a,sv = .slice a 0 0)∨∃b cap,sv = .slice (some ⟨b,0,none⟩) zs.length cap∧b<n₀∧∀j,j<zs.length→W.cell? ⟨b,j*2,none⟩=some (.int .i64 (zs[j]?.getD (0,⟨#[]⟩)).1)∧W.cell? ⟨b,j*2+1,none⟩=some (.string (zs[j]?.getD (0,⟨#[]⟩)).2)
theorem DkCh.below {n₀:Nat} {A B:World} (h:Below n₀ A B) {sv:Value} {zs:List (Int×ByteArray)}:DkCh n₀ A sv zs→DkCh n₀ B sv zs
 | .inl e => .inl e
 | .inr ⟨b,cap,e,hb,hc⟩ => .inr ⟨b,cap,e,hb,fun j hj=>⟨(h.cell (p:=⟨b,j*2,none⟩) hb).trans (hc j hj).1,(h.cell (p:=⟨b,j*2+1,none⟩) hb).trans (hc j hj).2⟩⟩
theorem dk_stops (F:Fence) (n:Nat) (h44:F.fn 73) (hro:F.round=none) (hn:1≤n) (Bs n₀:Nat) (sv:Value) (zs:List (Int×ByteArray)) (hreach:zs.length≤9223372036854775807) (w:World) (hBs:Bs<n₀) (hn₀:n₀≤w.heap.size)
  (hc:w.cell? ⟨Bs,0,none⟩=some sv) (hI:DkCh n₀ w sv zs) :
  SeqStopsK F n Try.prog 73 #[.pointer (some ⟨Bs,0,none⟩)] dkEnc (Below n₀) (fun ys=>ys=d0s (dkAt zs) zs.length) (fun pre=>∃k,k<zs.length∧pre=d0s (dkAt zs) (k+1)) zs.length w:=fun l J Jx W hW _ _ hY h0=>by
 have hc':=(hW.cell (p:=⟨Bs,0,none⟩) (by show Bs<_;omega)).trans hc;rcases hI.below (hW.mono hn₀) with ⟨rfl,a,rfl⟩ | ⟨b,cap,rfl,hb,hcs⟩
 ·exact (c1i F n h44 hro l Bs a J W hc' h0).mono fun e W' ⟨he,hj⟩=>⟨he,.inl ⟨_,rfl,hj⟩⟩
 ·exact dk_back1 F n h44 hro hn l Bs n₀ b cap zs hreach hb J Jx hY W hc' hBs hcs h0
end
section
open Go Go.RowKit Go.Shelf Go.Proofs
attribute [local go_sem] Oper.semAt_some
theorem n0i {tmps:Array Value} {W:World} {x y:Nat} {s:ByteArray} {c:Int} (h4:tmps[4]?.getD undef = .pointer (some ⟨x,0,none⟩)) (h5:tmps[5]?.getD undef = .pointer (some ⟨y,0,none⟩))
  (hx:W.cell? ⟨x,0,none⟩=some (.string s)) (hy:W.cell? ⟨y,0,none⟩=some (.int .i64 c)):(results Try.f39 tmps).run Try.prog W = .ok (.tuple #[.string s,.int .i64 c]) W:=by
 have hr:Try.f39.results = #[.cell 4 9,.cell 5 29]:=rfl;simp only[results,hr];have z9:=Try.sizeOf9;have a9:=Try.isAgg9;have z26:=Try.sizeOf29;have a26:=Try.isAgg29;simp[go_sem,h4,h5,asAddr,loadVar,hx,hy,z9,a9,z26,a26]
set_option maxRecDepth 100000 in
set_option maxHeartbeats 1000000 in
theorem dk_has (F:Fence) (n:Nat) (h28:F.fn 62) (hro:F.round=none) (b len cap:Nat) (ao:Option Addr) (i:Int) (w:World) (hc:w.cell? ⟨b,0,none⟩=some (.slice ao len cap)) (hl:len≤9223372036854775807) :
  CallsIn F n Try.prog 62 #[.pointer (some ⟨b,0,none⟩),.int .i64 i] w fun e w'=>e = .returned (.bool (decide (0≤i)&&decide (i<len)))∧w'=w:=by
 refine callsIn_of_wp Try.func62 rfl h28 ?_ hro;simp only[Try.ntmps62,List.size_toArray,List.length_cons,List.length_nil,Nat.reduceAdd,Nat.reduceSub,Array.replicate_succ,Array.replicate_zero,List.push_toArray,List.append_toArray,List.nil_append,List.cons_append];by_cases h0:0≤i
 ·gi_wp2
  go_ret
  simp[h0]
 ·gi_wp2
  go_ret
  simp;omega
def DkSt (n₀:Nat) (W:World) (sv:Value) (ss:List ByteArray):Prop :=
 (ss=[]∧∃a,sv = .slice a 0 0)∨∃b cap,sv = .slice (some ⟨b,0,none⟩) ss.length cap∧b<n₀∧∀j,j<ss.length→W.cell? ⟨b,j,none⟩=some (.string (ss[j]?.getD ⟨#[]⟩))
def t0o (down:Bool) (ss:List ByteArray) (zs:List (Int×ByteArray)) (i:Int):ByteArray×Int :=
 if down then (⟨#[]⟩,14) else if 0≤i∧i<ss.length then
  match zs.reverse.find? (fun z=>decide (z.1=i)) with
  | some z=>(z.2,0)
  | none=>(ss[i.toNat]?.getD ⟨#[]⟩,0)
 else (⟨#[]⟩,1)
theorem t0m {W:World} {x y:Nat} {p q:Value} (hx:Boxed W x 9 p) (hy:Boxed W y 29 q) (hne:x≠y) (u v:Value) :
  (W.cell? ⟨x,0,none⟩=some p∧W.frozen? ⟨x,0,none⟩=false)∧((W.setCell ⟨x,0,none⟩ u).cell? ⟨y,0,none⟩=some q∧(W.setCell ⟨x,0,none⟩ u).frozen? ⟨y,0,none⟩=false) ∧
   Boxed ((W.setCell ⟨x,0,none⟩ u).setCell ⟨y,0,none⟩ v) x 9 u∧Boxed ((W.setCell ⟨x,0,none⟩ u).setCell ⟨y,0,none⟩ v) y 29 v:=by
 have h1:=hx.set u;have h2:=hy.kept (grownBy_setCell' W x u) (by simpa using fun e=>hne e.symm);exact ⟨⟨hx.cell,hx.frozen⟩,⟨h2.cell,h2.frozen⟩,h1.kept (grownBy_setCell' _ y v) (by simpa using hne),h2.set v⟩
end
section
open Go
theorem dk_rev (zs:List (Int×ByteArray)):(d0s (dkAt zs) zs.length).map (·.2)=zs.reverse:=by
 apply List.ext_getElem
 ·simp[d0s]
 ·intro i h1 h2;have hi:i<zs.length:=by simpa [d0s] using h1
  simp only[d0s,List.map_map,List.getElem_map,List.getElem_range,Function.comp,dkAt,List.getElem_reverse];rw[List.getElem?_eq_getElem (by omega)];rfl
theorem dk_take {α:Type} (f:Nat→α) {k n:Nat} (h:k≤n):d0s f k=(d0s f n).take k:=by
 simp[d0s,←List.map_take,List.take_range,Nat.min_eq_left h]
theorem dk_found {zs:List (Int×ByteArray)} {i:Int} {k:Nat} {pre:List (Nat×Int×ByteArray)} {x:Nat×Int×ByteArray} (hk:k<zs.length) (hp:pre++[x]=d0s (dkAt zs) (k+1)) (hn:∀y∈pre,y.2.1≠i) (hx:x.2.1=i) :
  zs.reverse.find? (fun z=>decide (z.1=i))=some x.2:=by
 rw[←dk_rev,List.find?_eq_some_iff_append];refine ⟨by simpa using hx,pre.map (·.2),((d0s (dkAt zs) zs.length).drop (k+1)).map (·.2),?_,?_⟩
 ·have:d0s (dkAt zs) zs.length=(pre++[x])++(d0s (dkAt zs) zs.length).drop (k+1):=by
   rw[hp,dk_take _ (Nat.succ_le_of_lt hk),List.take_append_drop]
  conv=>lhs;rw[this]
  simp
 ·intro y hy;obtain ⟨z,hz,rfl⟩:=List.mem_map.1 hy
  simpa using hn z hz
theorem dk_none {zs:List (Int×ByteArray)} {i:Int} (hn:∀y∈d0s (dkAt zs) zs.length,y.2.1≠i):zs.reverse.find? (fun z=>decide (z.1=i))=none:=by
 rw[←dk_rev,List.find?_eq_none];intro y hy;obtain ⟨z,hz,rfl⟩:=List.mem_map.1 hy
 simpa using hn z hz
end
section
open Go Go.RowKit Go.Shelf Go.Proofs
attribute [local go_sem] Oper.semAt_some
theorem DkCh.more {n₀ n₁:Nat} {W:World} {sv:Value} {zs:List (Int×ByteArray)} (h:n₀≤n₁):DkCh n₀ W sv zs→DkCh n₁ W sv zs
 | .inl e => .inl e
 | .inr ⟨b,cap,e,hb,hc⟩ => .inr ⟨b,cap,e,by omega,hc⟩
theorem n0j {n₀:Nat} {A B:World} {row:Option Nat} (hg:A.grownBy B row) (hA:n₀≤A.heap.size) (hr:∀r,row=some r→n₀≤r):Below n₀ A B :=
 ⟨hg.os,hg.tape,hg.output,hg.size,fun k hk=>hg.block k (by omega) (fun e=>by have:=hr k e.symm;omega)⟩
@[reducible] def dkT (b s:Nat) (i:Int) (pv t7 t23 t24:Value):Array Value :=
 #[.pointer (some ⟨b,0,none⟩),.int .i64 i,undef,.pointer (some ⟨s,0,none⟩),.pointer (some ⟨s+1,0,none⟩),.pointer (some ⟨s+1+1,0,none⟩),undef,t7,.bool false,.pointer (some ⟨b,0,none⟩),.pointer (some ⟨b,0,none⟩),.pointer (some ⟨b,3,none⟩),.bool false,.bool false,
  .pointer (some ⟨b,0,none⟩),.int .i64 i,.bool true,.bool false,.pointer (some ⟨b,0,none⟩),.pointer (some ⟨b,0,none⟩),.pointer (some ⟨b,1,none⟩),pv,.func (.func 73) #[] #[.pointer (some ⟨s+1+1+1,0,none⟩)],t23,t24,undef,undef,undef,undef,undef,undef,undef,undef,undef,undef,undef,undef,undef]
set_option maxRecDepth 100000 in
set_option maxHeartbeats 4000000 in
theorem g1d (F:Fence) (n:Nat) (h13:F.fn 39) (h28:F.fn 62) (h35:F.fn 63) (h44:F.fn 73) (hro:F.round=none) (hn:3≤n) (b:Nat) (sv pv:Value) (arm:Int) (down:Bool) (T:Nat) (ss:List ByteArray) (zs:List (Int×ByteArray)) (i:Int) (w:World)
  (hreach:zs.length≤9223372036854775807) (hl:ss.length≤9223372036854775807) (hb:w.heap[b]? = some (.cells #[sv,pv,.int .i64 arm,.bool down] T (0,0))) (hs:DkSt w.heap.size w sv ss) (hz:DkCh w.heap.size w pv zs) :
  CallsIn F n Try.prog 39 #[.pointer (some ⟨b,0,none⟩),.int .i64 i] w fun e w'=>e = .returned (.tuple #[.string (t0o down ss zs i).1,.int .i64 (t0o down ss zs i).2])∧Below w.heap.size w w':=by
 have h1:1≤n:=by omega
 have hlt:b<w.heap.size:=(Array.getElem?_eq_some_iff.1 hb).1;have cell:∀ {W:World} (j:Nat) (v:Value),Below w.heap.size w W → #[sv,pv,Value.int .i64 arm,.bool down][j]? = some v→W.cell? ⟨b,j,none⟩=some v:=fun {W} j v h hj=>by
  rw[h.cell (p:=⟨b,j,none⟩) hlt];simp[World.cell?,hb,hj]
 refine callsIn_of_wp_marks Try.func39 rfl h13 ?_ hro;simp only[Try.ntmps39,List.size_toArray,List.length_cons,List.length_nil,Nat.reduceAdd,Nat.reduceSub,Array.replicate_succ,Array.replicate_zero,List.push_toArray,List.append_toArray,List.nil_append,List.cons_append];have bI:=((Boxed.new w 3 (.int .i64 i)).alloc (.cells #[.string ⟨#[]⟩] 9)).alloc (.cells #[.int .i64 0] 29);have b4:=(Boxed.new (w.alloc (.cells #[.int .i64 i] 3)) 9 (.string ⟨#[]⟩)).alloc (.cells #[.int .i64 0] 29);have b5:=Boxed.new ((w.alloc (.cells #[.int .i64 i] 3)).alloc (.cells #[.string ⟨#[]⟩] 9)) 29 (.int .i64 0)
 have hB1:Below w.heap.size w (((w.alloc (.cells #[.int .i64 i] 3)).alloc (.cells #[.string ⟨#[]⟩] 9)).alloc (.cells #[.int .i64 0] 29)) :=
  (((Below.refl _ w).alloc (Nat.le_refl _) _).alloc (by simp) _).alloc (by simp;omega) _
 rw[World.size_alloc] at b4 b5;rw[World.size_alloc] at b5;have hd3:=cell 3 _ hB1 rfl;have cI:=bI.cell;have fin:∀c:Int,Boxed (((w.alloc (.cells #[.int .i64 i] 3)).alloc (.cells #[.string ⟨#[]⟩] 9)).alloc (.cells #[.int .i64 c] 29)) (w.heap.size+1) 9 (.string ⟨#[]⟩)∧Boxed (((w.alloc (.cells #[.int .i64 i] 3)).alloc (.cells #[.string ⟨#[]⟩] 9)).alloc (.cells #[.int .i64 c] 29)) (w.heap.size+1+1) 29 (.int .i64 c)∧Below w.heap.size w (((w.alloc (.cells #[.int .i64 i] 3)).alloc (.cells #[.string ⟨#[]⟩] 9)).alloc (.cells #[.int .i64 c] 29)):=fun c=>by
  have r4:=(Boxed.new (w.alloc (.cells #[.int .i64 i] 3)) 9 (.string ⟨#[]⟩)).alloc (.cells #[.int .i64 c] 29);have r5:=Boxed.new ((w.alloc (.cells #[.int .i64 i] 3)).alloc (.cells #[.string ⟨#[]⟩] 9)) 29 (.int .i64 c);rw[World.size_alloc] at r4 r5;rw[World.size_alloc] at r5;exact ⟨r4,r5,(((Below.refl _ w).alloc (Nat.le_refl _) _).alloc (by simp) _).alloc (by simp;omega) _⟩
 cases down with
 | true =>
  obtain ⟨⟨c4,f4⟩,⟨c5,f5⟩,_,_⟩:=t0m b4 b5 (by omega) (.string ⟨#[]⟩) (.int .i64 14);obtain ⟨r4,r5,rB⟩:=fin 14
  gi_wp2
  exact ⟨_,n0i rfl rfl r4.cell r5.cell,rfl,rB⟩
 | false =>
  obtain ⟨ao,cap,hsv⟩:∃ao cap,sv = .slice ao ss.length cap:=by
   rcases hs with ⟨rfl,a,rfl⟩ | ⟨g,cap,rfl,_⟩
   ·exact ⟨a,0,rfl⟩
   ·exact ⟨_,_,rfl⟩
  have hd0:=cell 0 _ hB1 rfl;have cH:=dk_has F (n-1) h28 hro b ss.length cap ao i _ (hsv ▸ hd0) hl;by_cases hi:0≤i∧i<ss.length
  ·have hbf:(decide (0≤i)&&decide (i<(ss.length:Int)))=true:=by simp[hi.1,hi.2]
   rw[hbf] at cH;have hd1:=cell 1 _ hB1 rfl;obtain ⟨pa,pl,pc,hpv⟩:∃a l c,pv = .slice a l c:=by
    rcases hz with ⟨rfl,a,rfl⟩ | ⟨g,cap,rfl,_⟩
    ·exact ⟨_,_,_,rfl⟩
    ·exact ⟨_,_,_,rfl⟩
   subst hpv;have cB:=c1h F (n-1) h35 hro pa pl pc (((w.alloc (.cells #[.int .i64 i] 3)).alloc (.cells #[.string ⟨#[]⟩] 9)).alloc (.cells #[.int .i64 0] 29))
   gi_wp2_with (first
    | (gi_at_call 62;refine cH.mono ?_;rintro e w' ⟨rfl,rfl⟩)
    | (gi_at_call 63;refine cB.mono ?_;rintro e w' ⟨rfl,rfl⟩))
   obtain ⟨w4,hw4⟩:∃w4,(((w.alloc (.cells #[.int .i64 i] 3)).alloc (.cells #[.string ⟨#[]⟩] 9)).alloc (.cells #[.int .i64 0] 29)).alloc (.cells #[.slice pa pl pc] 48)=w4:=⟨_,rfl⟩;rw[hw4];have hB4:Below w.heap.size w w4:=by rw[←hw4];exact hB1.alloc (by simp;omega) _
   have hsz:w4.heap.size=w.heap.size+4:=by rw[←hw4];simp
   have cP:w4.cell? ⟨w.heap.size+1+1+1,0,none⟩=some (.slice pa pl pc):=by
    have:=Boxed.new (((w.alloc (.cells #[.int .i64 i] 3)).alloc (.cells #[.string ⟨#[]⟩] 9)).alloc (.cells #[.int .i64 0] 29)) 48 (.slice pa pl pc);rw[World.size_alloc,World.size_alloc,World.size_alloc,hw4] at this;exact this.cell
   have bI4:Boxed w4 w.heap.size 3 (.int .i64 i):=by rw[←hw4];exact bI.alloc _
   have b44:Boxed w4 (w.heap.size+1) 9 (.string ⟨#[]⟩):=by rw[←hw4];exact b4.alloc _
   have b54:Boxed w4 (w.heap.size+1+1) 29 (.int .i64 0):=by rw[←hw4];exact b5.alloc _
   have boxB:∀ {W:World} {k:Nat} {t:TypeId} {v:Value},Below (w.heap.size+4) w4 W→k<w.heap.size+4→Boxed w4 k t v→Boxed W k t v:=fun h hk hx=>(h.block _ hk).trans hx
   clear hw4;refine wpIn_rangeFunc_ownH hro h1 (gf:=73) (lb := #[.pointer (some ⟨w.heap.size+1+1+1,0,none⟩)]) rfl h44 (enters_of Try.func73 (by kernel_rfl) rfl)
    (dk_stops F (n-1) h44 hro (by omega) (w.heap.size+1+1+1) (w.heap.size+4) (.slice pa pl pc) zs hreach w4 (by omega) (by omega) cP ((hz.below hB4).more (by omega))) belowK_t (belowK_b (by omega)) (Below.refl _ _) (fun _=>rfl)
    (fun pre W=>(∀y∈pre,y.2.1≠i)∧Below (w.heap.size+4) w4 W)
    (fun c pre W=>c = .ret∧(∃pre0 x,pre=pre0++[x]∧(∀y∈pre0,y.2.1≠i)∧x.2.1=i∧Boxed W (w.heap.size+1) 9 (.string x.2.2))∧Boxed W (w.heap.size+1+1) 29 (.int .i64 0)∧Below w.heap.size w4 W)
    (fun s A B row hs hg hr=>⟨hs.1,hs.2.trans (n0j hg (by have:=hs.2.size;omega) (fun r e=>by have:=(hr r e).1;omega))⟩)
    (fun c s A B row hs hg hr=>by
     obtain ⟨rfl,⟨p0,x,e1,e2,e3,e4⟩,e5,e6⟩:=hs;have nb:∀ {k:Nat} {t:TypeId} {v:Value},Boxed A k t v→some k≠row:=fun hx e=>by
      obtain ⟨_,o,ho,hc⟩:=hr _ e.symm;rw[show A.heap[_]? = _ from hx] at ho;cases ho;cases hc
     exact ⟨rfl,⟨p0,x,e1,e2,e3,e4.kept hg (nb e4)⟩,e5.kept hg (nb e5),e6.trans (n0j hg (by have:=e6.size;omega) (fun r e=>by have:=(hr r e).1;omega))⟩)
    ⟨fun y hy=>(by cases hy),Below.refl _ _⟩
    (fun x a' W=>∃p,a' = { tmps:=dkT b w.heap.size i (.slice pa pl pc) (.pointer (some ⟨p,0,none⟩)) (.int .i64 (x.1:Int)) (.agg #[.int .i64 x.2.1,.string x.2.2]),defers:=[] }∧W.heap[p]? = some (.cells #[.int .i64 x.2.1,.string x.2.2] 61 (0,0)))
    (fun x a' s A B row hs hg hr=>by
     obtain ⟨p,e1,e2⟩:=hs;refine ⟨p,e1,(hg.block p (Array.getElem?_eq_some_iff.1 e2).1 (fun e => ?_)).trans e2⟩;obtain ⟨_,o,ho,hc⟩:=hr _ e.symm;rw[e2] at ho
     cases ho;cases hc)
    ?assign ?body ?done ?stop
   case assign =>
    rintro l pre x W K hI hK;unfold dkEnc
    gi_wp2
    have hBa:Below (w.heap.size+4) W (W.alloc (.cells #[.int .i64 x.2.1,.string x.2.2] 61)):=(Below.refl _ W).alloc (by have:=hI.2.size;omega) _;exact hK _ _ (KeepsFrom.of_grownBy (World.grownBy_alloc W _ none) (by simp)) hBa ⟨hI.1,hI.2.trans hBa⟩ ⟨W.heap.size,rfl,World.alloc_heap_new W _⟩
   case body =>
    rintro l pre x a' W hl ⟨r,hr⟩ ⟨hn,hB⟩ ⟨p,rfl,hp⟩ hlen;have cp0:W.cell? ⟨p,0,none⟩=some (.int .i64 x.2.1):=by simp[World.cell?,hp]
    have cp1:W.cell? ⟨p,1,none⟩=some (.string x.2.2):=by simp[World.cell?,hp]
    have ci:=(boxB hB (by omega) bI4).cell;obtain ⟨⟨c4,f4⟩,⟨c5,f5⟩,r4,r5⟩:=t0m (boxB hB (by omega) b44) (boxB hB (by omega) b54) (by omega) (.string x.2.2) (.int .i64 0);unfold dkT;by_cases hx:x.2.1=i
    ·have hdx:decide (x.2.1=i)=true:=by simpa using hx
     gi_wp2
     have g1:=grownBy_setCell' W (w.heap.size+1) (.string x.2.2);have g2:=grownBy_setCell' (W.setCell ⟨w.heap.size+1,0,none⟩ (.string x.2.2)) (w.heap.size+1+1) (.int .i64 0);have hz1:w.heap.size≤W.heap.size:=by have:=hB.size;omega
     exact ⟨(KeepsFrom.of_grownBy g1 (fun j e=>by cases e;omega)).trans (KeepsFrom.of_grownBy g2 (fun j e=>by cases e;omega)),rfl,⟨pre,x,rfl,hn,hx,r4⟩,r5,
      (hB.mono (by omega)).trans ((n0j g1 hz1 (fun r e=>by cases e;omega)).trans (n0j g2 (by have:=g1.size;omega) (fun r e=>by cases e;omega)))⟩
    ·gi_wp2
     exact ⟨KeepsFrom.refl _ _,Below.refl _ _,fun y hy=>(by
      rcases List.mem_append.1 hy with hy | hy
      ·exact hn y hy
      ·rw[List.mem_singleton] at hy;rw[hy];exact hx),hB⟩
   case done =>
    rintro D xs W hD rfl ⟨hn,hB⟩ hK;have hBW:Below w.heap.size w W:=hB4.trans (hB.mono (by omega));rcases hs with ⟨rfl,_⟩ | ⟨g,gc,hsg,hg,hcs⟩
    ·exact absurd hi.2 (by simp;omega)
    have ci:=(boxB hB (by omega) bI4).cell;have hres:=dk_none hn;obtain ⟨k,rfl⟩:∃k:Nat,i=(k:Int):=⟨i.toNat,by omega⟩;have hkl:k<ss.length:=by omega
    obtain ⟨len,hlen⟩:∃len,len=ss.length:=⟨_,rfl⟩;have cD:W.cell? ⟨b,0,none⟩=some (.slice (some ⟨g,0,none⟩) len gc):=by rw[hlen,←hsg];exact cell 0 _ hBW rfl
    have cE:W.cell? ⟨g,k,none⟩=some (.string (ss[k]?.getD ⟨#[]⟩)):=(hBW.cell (p:=⟨g,k,none⟩) hg).trans (hcs k hkl);have hkn:k<len:=by omega
    have hres2:t0o false ss zs (k:Int)=(ss[k]?.getD ⟨#[]⟩,0):=by
     simp only[t0o,if_pos hi,hres];simp
    obtain ⟨st,hst⟩:∃st,ss[k]?.getD ⟨#[]⟩=st:=⟨_,rfl⟩;rw[hst] at cE hres2;have HR:∀_:Unit,t0o false ss zs (k:Int)=(st,0):=fun _=>hres2
    have q4:=boxB hB (by omega) b44;have q5:=boxB hB (by omega) b54;obtain ⟨⟨c4,f4⟩,⟨c5,f5⟩,r4,r5⟩:=t0m (W:=W.drew) q4 q5 (by omega) (.string st) (.int .i64 0);obtain ⟨⟨c4b,f4b⟩,⟨c5b,f5b⟩,r4b,r5b⟩:=t0m (W:=W) q4 q5 (by omega) (.string st) (.int .i64 0);have c5d:(W.setCell ⟨w.heap.size+1,0,none⟩ (.string st)).drew.cell? ⟨w.heap.size+1+1,0,none⟩=some (.int .i64 0):=c5b;have f5d:(W.setCell ⟨w.heap.size+1,0,none⟩ (.string st)).drew.frozen? ⟨w.heap.size+1+1,0,none⟩=false:=f5b;have ciD:W.drew.cell? ⟨w.heap.size,0,none⟩=some (.int .i64 (k:Int)):=ci
    have cDD:W.drew.cell? ⟨b,0,none⟩=some (.slice (some ⟨g,0,none⟩) len gc):=cD;have cED:W.drew.cell? ⟨g,k,none⟩=some (.string st):=cE;clear hsg hcs hz hlen hkl hi hst hres hres2
    gi_wp2
    have hz1:w.heap.size+4≤W.heap.size:=by have:=hB.size;omega
    have g1:=grownBy_setCell' W (w.heap.size+1) (.string st);have g2:=grownBy_setCell' (W.setCell ⟨w.heap.size+1,0,none⟩ (.string st)) (w.heap.size+1+1) (.int .i64 0);obtain ⟨Wz,hWz⟩:∃Wz,Wz=((W.setCell ⟨w.heap.size+1,0,none⟩ (.string st)).setCell ⟨w.heap.size+1+1,0,none⟩ (.int .i64 0)).drew:=⟨_,rfl⟩;have hKz:Wz.heap[D]? = some (.deferred (some [])):=by
     rw[hWz];exact (g2.block D (by have:=g1.size;have:=(Array.getElem?_eq_some_iff.1 hK).1;omega) (by simp;omega)).trans ((g1.block D (Array.getElem?_eq_some_iff.1 hK).1 (by simp;omega)).trans hK)
    have r4z:Boxed Wz (w.heap.size+1) 9 (.string st):=by rw[hWz];exact r4b
    have r5z:Boxed Wz (w.heap.size+1+1) 29 (.int .i64 0):=by rw[hWz];exact r5b
    have hBz:Below w.heap.size w Wz:=by
     rw[hWz];exact (hB4.trans (hB.mono (by omega))).trans (((n0j g1 (by omega) (fun r e=>by cases e;omega)).trans (n0j g2 (by have:=g1.size;omega) (fun r e=>by cases e;omega))).drew)
    clear g1 g2
    gi_region
    all_goals gi_wp2
    all_goals rw[←hWz,HR ()]
    all_goals refine ⟨by simp,.inl ⟨_,_,rfl,run_takeDeferred hKz,?_⟩⟩
    all_goals exact ⟨_,n0i rfl rfl (Boxed.cell ((World.putObj_heap_other (by omega)).trans r4z)) (Boxed.cell ((World.putObj_heap_other (by omega)).trans r5z)),rfl,hBz.trans (belowK_b (w:=w) (Nat.le_refl _) Wz D _ _ (by omega) hKz rfl rfl)⟩
   case stop =>
    rintro D c pre W hD ⟨k,hk,hpre⟩ ⟨rfl,⟨p0,x,rfl,hn,hx,h4⟩,h5,hB⟩ hK
    gi_wp2
    have hres:t0o false ss zs i=(x.2.2,0):=by
     simp only[t0o,if_pos hi,dk_found hk hpre hn hx];rfl
    rw[hres];refine ⟨by simp,.inl ⟨_,_,rfl,run_takeDeferred hK,?_⟩⟩;have p4:Boxed (W.putObj D (.deferred none)) (w.heap.size+1) 9 (.string x.2.2):=(World.putObj_heap_other (by omega)).trans h4;have p5:Boxed (W.putObj D (.deferred none)) (w.heap.size+1+1) 29 (.int .i64 0):=(World.putObj_heap_other (by omega)).trans h5;exact ⟨_,n0i rfl rfl p4.cell p5.cell,rfl,hB4.trans (hB.trans (belowK_b (w:=w) (Nat.le_refl _) W D _ _ (by omega) hK rfl rfl))⟩
  ·have hbf:(decide (0≤i)&&decide (i<(ss.length:Int)))=false:=by
    simp only[Bool.and_eq_false_iff,decide_eq_false_iff_not];by_cases h0:0≤i
    ·exact .inr fun q=>hi ⟨h0,q⟩
    ·exact .inl h0
   rw[hbf] at cH;obtain ⟨⟨c4,f4⟩,⟨c5,f5⟩,_,_⟩:=t0m b4 b5 (by omega) (.string ⟨#[]⟩) (.int .i64 1);obtain ⟨r4,r5,rB⟩:=fin 1;have hres:t0o false ss zs i=(⟨#[]⟩,1):=by simp only[t0o,if_neg hi];rfl
   rw[hres]
   gi_wp2_with (gi_at_call 62;refine cH.mono ?_;rintro e w' ⟨rfl,rfl⟩)
   exact ⟨_,n0i rfl rfl r4.cell r5.cell,rfl,rB⟩
end
section
open Go Go.RowKit Go.Shelf Go.Proofs Go.Flat
abbrev dkTy:Ty := .wrap (.pair (.own .str) (.pair (.own (.wrap (.pair (.int .i64) .str))) (.pair (.int .i64) .bool)))
def dkSs (l:List (List UInt8)):List ByteArray:=l.map fun s=>⟨s.toArray⟩
def dkZs (l:List (Int×List UInt8)):List (Int×ByteArray):=l.map fun z=>(z.1,⟨z.2.toArray⟩)
def r0a (d:List (List UInt8)×(List (Int×List UInt8)×(Int×Bool))) (i:Int):Option (List UInt8×(Int×(List (List UInt8)×(List (Int×List UInt8)×(Int×Bool))))) :=
 some (bif d.2.2.2 then ([],14,d) else bif decide (0≤i)&&decide (i<d.1.length) then
  (match d.2.1.reverse.find? (fun z=>decide (z.1=i)) with
  | some z=>(z.2,0,d)
  | none=>(d.1[i.toNat]?.getD [],0,d)) else ([],1,d))
theorem dk_same (d:List (List UInt8)×(List (Int×List UInt8)×(Int×Bool))) (i:Int) {y} (h:r0a d i=some y) :
  t0o d.2.2.2 (dkSs d.1) (dkZs d.2.1) i=(⟨y.1.toArray⟩,y.2.1)∧y.2.2=d:=by
 unfold r0a at h;injection h with h;subst h;unfold t0o;cases d.2.2.2 with
 | true=>exact ⟨rfl,rfl⟩
 | false =>
  have hl:(dkSs d.1).length=d.1.length:=by simp[dkSs]
  have hf:(dkZs d.2.1).reverse.find? (fun z=>decide (z.1=i))=(d.2.1.reverse.find? (fun z=>decide (z.1=i))).map fun z=>(z.1,⟨z.2.toArray⟩):=by
   unfold dkZs;rw[←List.map_reverse,List.find?_map];rfl
  rw[hl,hf];by_cases hi:0≤i∧i<d.1.length
  ·have hb:(decide (0≤i)&&decide (i<(d.1.length:Int)))=true:=by simp[hi.1,hi.2]
   rw[if_pos hi,hb];cases d.2.1.reverse.find? (fun z=>decide (z.1=i)) with
   | some z=>exact ⟨rfl,rfl⟩
   | none =>
    refine ⟨?_,rfl⟩;have:i.toNat<d.1.length:=by omega
    simp[dkSs,this]
  ·have hb:(decide (0≤i)&&decide (i<(d.1.length:Int)))=false:=by
    simp only[Bool.and_eq_false_iff,decide_eq_false_iff_not];by_cases h0:0≤i
    ·exact .inr fun q=>hi ⟨h0,q⟩
    ·exact .inl h0
   rw[if_neg hi,hb];exact ⟨rfl,rfl⟩
theorem dk_st {P:Program} {D:Nat→Nat} {W:World} {F:Fz} {O:List Nat} {g:Get} {l:List (List UInt8)} {v:Value} (hg:g 0=some v) (h:RdB P D (.own .str) l W F O g):DkSt W.heap.size W v (dkSs l)∧l.length≤maxLen:=by
 rcases h with ⟨rfl,_,p,h1⟩ | ⟨b,cap,h1,⟨cs,T,k1,k2,k3,k4,k5,k6⟩,_⟩
 ·rw[hg] at h1;injection h1 with h1;exact ⟨.inl ⟨rfl,p,h1⟩,by simp⟩
 ·rw[hg] at h1;injection h1 with h1;refine ⟨.inr ⟨b,cap,by rw[h1];simp[dkSs],(Array.getElem?_eq_some_iff.1 k1).1,fun j hj => ?_⟩,by have:=k4.1;omega⟩;have hj':j<l.length:=by simpa [dkSs] using hj
  have hk:=k6 j hj';have hk:cs[j*1+0]? = some (.string ⟨l[j].toArray⟩):=hk;rw[cell_of_row W b j cs _ _ k1];simp only[Nat.mul_one,Nat.add_zero] at hk;rw[hk];simp[dkSs,hj']
theorem dk_ch {P:Program} {D:Nat→Nat} {W:World} {F:Fz} {O:List Nat} {g:Get} {l:List (Int×List UInt8)} {v:Value} (hg:g 0=some v) (h:RdB P D (.own (.wrap (.pair (.int .i64) .str))) l W F O g):DkCh W.heap.size W v (dkZs l)∧l.length≤maxLen:=by
 rcases h with ⟨rfl,_,p,h1⟩ | ⟨b,cap,h1,⟨cs,T,k1,k2,k3,k4,k5,k6⟩,_⟩
 ·rw[hg] at h1;injection h1 with h1;exact ⟨.inl ⟨rfl,p,h1⟩,by simp⟩
 ·rw[hg] at h1;injection h1 with h1;refine ⟨.inr ⟨b,cap,by rw[h1];simp[dkZs],(Array.getElem?_eq_some_iff.1 k1).1,fun j hj => ?_⟩,by have:=k4.1;omega⟩;have hj':j<l.length:=by simpa [dkZs] using hj
  have hk:=k6 j hj';have hk:cs[j*2+0]? = some (.int .i64 l[j].1)∧cs[j*2+1]? = some (.string ⟨l[j].2.toArray⟩):=hk;rw[cell_of_row W b (j*2) cs _ _ k1,cell_of_row W b (j*2+1) cs _ _ k1];simp only[Nat.add_zero] at hk;rw[hk.1,hk.2];simp[dkZs,hj']
set_option maxRecDepth 100000 in
theorem hc_Read {G:World→Fz→Prop}:l0e Try.prog G 39 ⟨[.ref dkTy,.int .i64],[.str,.int .i64],[0]⟩ (fun x=>r0a x.1 x.2.1):=by
 intro x y hy D W F O vs _ hF hf hx hO hOF;obtain ⟨v,us,O1,O2,rfl,rfl,hr,hf2,hx2⟩:=n0f rfl rfl hf hx;obtain ⟨v2,us2,O3,O4,rfl,rfl,⟨rfl,hv⟩,hf3,hx3⟩:=n0f rfl rfl hf2 hx2
 match us2,hf3 with
 | [],_ =>
 have hO4:O4=[]:=hx3;subst hO4;simp only[List.append_nil] at hO hOF ⊢;have hv:v2 = .int .i64 x.2.1:=by simpa [Rd,RdP] using hv
 subst hv;have hr0:=hr;obtain ⟨b,arr,T,O',hg0,hb,hsz,hone,rfl,hd⟩:=hr;have hvp:v = .pointer (some ⟨b,0,none⟩):=by simpa using hg0
 subst hvp;obtain ⟨Oa,Ob,rfl,ha,⟨Oc,Od,rfl,hc,⟨Oe,Of,rfl,⟨rfl,he⟩,⟨rfl,hbo⟩⟩⟩⟩:=hd;obtain ⟨s0,hs0⟩:∃v,arr[0]? = some v:=⟨_,Array.getElem?_eq_getElem (by rw[hsz];decide)⟩;obtain ⟨s1,hs1⟩:∃v,arr[1]? = some v:=⟨_,Array.getElem?_eq_getElem (by rw[hsz];decide)⟩;have he:arr[2]? = some (.int .i64 x.1.2.2.1):=he;have hbo:arr[3]? = some (.bool x.1.2.2.2):=hbo;obtain ⟨hst,hl1⟩:=dk_st (v:=s0) (by exact hs0) ha;obtain ⟨hch,hl2⟩:=dk_ch (v:=s1) (by exact hs1) hc;have harr:arr = #[s0,s1,.int .i64 x.1.2.2.1,.bool x.1.2.2.2]:=by
  have hsz4:arr.size=4:=hsz;apply Array.ext
  ·simp[hsz4]
  ·intro i h1 h2;rw[hsz4] at h1;have hi:arr[i]? = some arr[i]:=Array.getElem?_eq_getElem _
   match i,h1 with
   | 0,_=>rw[hs0] at hi;injection hi with hi;exact hi.symm
   | 1,_=>rw[hs1] at hi;injection hi with hi;exact hi.symm
   | 2,_=>rw[he] at hi;injection hi with hi;exact hi.symm
   | 3,_=>rw[hbo] at hi;injection hi with hi;exact hi.symm
 rw[harr] at hb;obtain ⟨hres,hyd⟩:=dk_same x.1 x.2.1 hy;have hC:=callsIn_wide.1 (g1d Fence.wide 3 trivial trivial trivial trivial rfl (Nat.le_refl _) b s0 s1 x.1.2.2.1 x.1.2.2.2 T (dkSs x.1.1) (dkZs x.1.2.1) x.2.1 W
  (by simp only[dkZs,List.length_map];unfold maxLen at hl2;omega) (by simp only[dkSs,List.length_map];unfold maxLen at hl1;omega) hb hst hch)
 rw[hres] at hC;refine hC.mono ?_;rintro e W' ⟨rfl,hB⟩;have hbut:But (· ∈ ([]:List Nat)) W W':=But.of_below hB;have hlat:Later W F W' F:=⟨hB.os,hB.tape,hB.output,hB.size,fun k hk=>hB.block k (hF k hk),fun _ h=>h⟩;have hr1:=hr0.later (.ref dkTy) hlat (fun k hk=>hB.block k (hr0.lt (.ref dkTy) k hk));refine ⟨_,F,rfl,?_,[.string ⟨y.1.toArray⟩,.int .i64 y.2.1],_,⟨⟨(fun e=>by cases e),(fun _=>rfl),rfl⟩,⟨(fun e=>by cases e),(fun _=>rfl),rfl⟩,trivial⟩,rfl,
  ⟨[],_,rfl,⟨rfl,rfl⟩,[],_,rfl,⟨rfl,rfl⟩,?_⟩,hO,hOF,fun k hk => .inl hk⟩
 ·exact ⟨hlat,fun k hk _=>hB.block k hk,fun _ h => .inl h⟩
 ·have hyd':y.2.2=x.1:=hyd;show RdB Try.prog D (.ref dkTy) y.2.2 W' F _ _;rw[hyd'];exact RdB.congr (.ref dkTy) (fun j hj=>by
   have:j=0:=by simp[width] at hj;omega
   subst this;rfl) hr1
end
end Go.Proofs.Ytmcgmijdnfcfgaa
