/-
 The flat reading and its soundness, merged part 4 of 4 (HC, HD, HE).
-/
import Derived.Test.YtjionkknnajjgaaGreatDoorFlatM3
import Derived.Shelf.Strings.Builder1
set_option linter.unusedVariables false
set_option linter.unusedSimpArgs false
section
set_option linter.unusedVariables false
namespace Go.Flat
open Go.Shelf Go.RowKit Go.Proofs
structure But (O:Nat→Prop) (w w':World):Prop where
 os:w'.os=w.os
 tape:w'.tape=w.tape
 output:w'.output=w.output
 size:w.heap.size≤w'.heap.size
 same:∀k,k<w.heap.size→¬O k→w'.heap[k]? = w.heap[k]?
theorem But.refl (O:Nat→Prop) (w:World):But O w w:=⟨rfl,rfl,rfl,Nat.le_refl _,fun _ _ _=>rfl⟩
theorem But.grown {O:Nat→Prop} {w w1 w2:World} {row:Option Nat} (h:But O w w1) (hg:w1.grownBy w2 row) (hr:∀k,row=some k→O k∨w.heap.size≤k):But O w w2 :=
 ⟨hg.os.trans h.os,hg.tape.trans h.tape,hg.output.trans h.output,Nat.le_trans h.size hg.size,fun k hk ho=>(hg.block k (Nat.lt_of_lt_of_le hk h.size) (fun e=>by
  rcases hr k e.symm with q | q
  ·exact ho q
  ·omega)).trans (h.same k hk ho)⟩
theorem But.alloc {O:Nat→Prop} {w w1:World} (h:But O w w1) (o:Obj):But O w (w1.alloc o):=h.grown (World.grownBy_alloc w1 o none) (fun _ e=>by cases e)
theorem But.setCell {O:Nat→Prop} {w w1:World} (h:But O w w1) {b:Nat} (hb:O b∨w.heap.size≤b) (j:Nat) (v:Value):But O w (w1.setCell ⟨b,j,none⟩ v) :=
 h.grown (row:=some b) ⟨rfl,rfl,rfl,by simp[World.setCell],fun k _ hk=>Below.heap_setCell _ _ _ _ (fun e=>hk (by simp[e]))⟩ (fun k e=>by cases e;exact hb)
theorem But.drew {O:Nat→Prop} {w w1:World} (h:But O w w1):But O w w1.drew:=⟨h.os,h.tape,h.output,h.size,h.same⟩
variable {P:Program} {ρ:Ren}
structure BldL (P:Program) (ρ:Ren):Prop where
 mixed:P.follows .mixedOrders=true
 e240:∀args w,(callFunc (ρ.f 240) args).run P w = .ok (.enter (ρ.f 240) args) w
 copy:∀(b:Nat) (p v:Value) (w:World),(p = .pointer none∨p = .pointer (some ⟨b,0,none⟩))→w.heap[b]? = some (.cells #[p,v] (ρ.t 72) (0,0)) →
  Calls P (ρ.f 240) #[.pointer (some ⟨b,0,none⟩)] w fun e w'=>e = .returned (.tuple #[])∧w'.heap[b]? = some (.cells #[.pointer (some ⟨b,0,none⟩),v] (ρ.t 72) (0,0))∧But (· = b) w w'∧w'.heap.size=w.heap.size
 t3:P.underlying (ρ.t 3)=some (TypeDesc.int IntKind.i64)
 a3:∀w,(isAgg (ρ.t 3)).run P w = .ok false w
 z3:∀w,(Go.sizeOf (ρ.t 3)).run P w = .ok 1 w
 v3:∀w,(zeroValue (ρ.t 3)).run P w = .ok (Value.int IntKind.i64 0) w
 t4:P.underlying (ρ.t 4)=some (TypeDesc.bool)
 a4:∀w,(isAgg (ρ.t 4)).run P w = .ok false w
 z4:∀w,(Go.sizeOf (ρ.t 4)).run P w = .ok 1 w
 v4:∀w,(zeroValue (ρ.t 4)).run P w = .ok (Value.bool false) w
 t5:P.underlying (ρ.t 5)=some (TypeDesc.int IntKind.u8)
 a5:∀w,(isAgg (ρ.t 5)).run P w = .ok false w
 z5:∀w,(Go.sizeOf (ρ.t 5)).run P w = .ok 1 w
 v5:∀w,(zeroValue (ρ.t 5)).run P w = .ok (Value.int IntKind.u8 0) w
 t9:P.underlying (ρ.t 9)=some (TypeDesc.string)
 a9:∀w,(isAgg (ρ.t 9)).run P w = .ok false w
 z9:∀w,(Go.sizeOf (ρ.t 9)).run P w = .ok 1 w
 v9:∀w,(zeroValue (ρ.t 9)).run P w = .ok (Value.string { data := #[] }) w
 t37:P.underlying (ρ.t 37)=some (TypeDesc.slice (ρ.t 5))
 a37:∀w,(isAgg (ρ.t 37)).run P w = .ok false w
 z37:∀w,(Go.sizeOf (ρ.t 37)).run P w = .ok 1 w
 v37:∀w,(zeroValue (ρ.t 37)).run P w = .ok (Value.slice none 0 0) w
 t70:P.underlying (ρ.t 70)=some (TypeDesc.pointer (ρ.t 72))
 a70:∀w,(isAgg (ρ.t 70)).run P w = .ok false w
 z70:∀w,(Go.sizeOf (ρ.t 70)).run P w = .ok 1 w
 v70:∀w,(zeroValue (ρ.t 70)).run P w = .ok (Value.pointer none) w
 t72 : P.underlying (ρ.t 72) = some (TypeDesc.struct #[{ name := "addr", type := ρ.t 70, offset := 0, embedded := false, tag := "", pkgPath := "strings", byteOffset := 0 }, { name := "buf", type := ρ.t 37, offset := 1, embedded := false, tag := "", pkgPath := "strings", byteOffset := 8 }])
 a72:∀w,(isAgg (ρ.t 72)).run P w = .ok true w
 z72:∀w,(Go.sizeOf (ρ.t 72)).run P w = .ok 2 w
 v72:∀w,(zeroValue (ρ.t 72)).run P w = .ok (Value.agg #[Value.pointer none,Value.slice none 0 0]) w
theorem bld_copy {P:Program} {F T:Nat} (h1:∀(b:Nat) (w:World),w.cell? ⟨b,0,none⟩=some (.pointer (some ⟨b,0,none⟩))→Calls P F #[.pointer (some ⟨b,0,none⟩)] w fun e w'=>e = .returned (.tuple #[])∧w'=w)
  (h2:∀(b:Nat) (w:World),w.cell? ⟨b,0,none⟩=some (.pointer none)→w.shape? b=some (T,2)→w.frozen? ⟨b,0,none⟩=false→Calls P F #[.pointer (some ⟨b,0,none⟩)] w fun e w'=>e = .returned (.tuple #[])∧w'=w.setCell ⟨b,0,none⟩ (.pointer (some ⟨b,0,none⟩)))
  (b:Nat) (p v:Value) (w:World) (hp:p = .pointer none∨p = .pointer (some ⟨b,0,none⟩)) (hb:w.heap[b]? = some (.cells #[p,v] T (0,0))) :
  Calls P F #[.pointer (some ⟨b,0,none⟩)] w fun e w'=>e = .returned (.tuple #[])∧w'.heap[b]? = some (.cells #[.pointer (some ⟨b,0,none⟩),v] T (0,0))∧But (· = b) w w'∧w'.heap.size=w.heap.size:=by
 have c0:w.cell? ⟨b,0,none⟩=some p:=by rw[Lib.cell_of_heap hb];rfl
 rcases hp with rfl | rfl
 ·refine (h2 b w c0 (by simp[World.shape?,hb]) (Lib.frozen_of_heap hb 0)).mono ?_;rintro e w' ⟨rfl,rfl⟩;refine ⟨rfl,?_,(But.refl (· = b) w).setCell (.inl rfl) 0 _,by simp[World.setCell]⟩;simp[World.setCell,Array.getElem?_modify,hb]
 ·refine (h1 b w c0).mono ?_;rintro e w' ⟨rfl,rfl⟩;exact ⟨rfl,hb,But.refl _ _,rfl⟩
theorem c2u {T e b:Nat} {x:List UInt8} {v v':Value} {w w1 w2:World} {bs:List Nat} (hTe:T≠e) (hb1:w1.heap[b]? = some (.cells #[.pointer (some ⟨b,0,none⟩),v] T (0,0))) (hbut:But (· = b) w w1)
  (hrow:RowU e v' x w2) (hg:w1.grownBy w2 v.ownBlock) (hat:v'.ownBlock=v.ownBlock∨v'.ownBlock=some w1.heap.size) (hne:v.ownBlock≠some b) (hbs:∀k,v.ownBlock=some k→k∈bs) (hbb:b∈bs) :
  ∃bs',p0t T e b x (w2.setCell ⟨b,1,none⟩ v') bs'∧(∀k∈bs',k∈bs∨w.heap.size≤k)∧But (· ∈ bs) w (w2.setCell ⟨b,1,none⟩ v'):=by
 have hlt:b<w1.heap.size:=b0q? hb1;have hb2:w2.heap[b]? = some (.cells #[.pointer (some ⟨b,0,none⟩),v] T (0,0)):=by
  rw[hg.block b hlt (fun e=>hne e.symm)];exact hb1
 have hne':v'.ownBlock≠some b:=by
  rcases hat with h | h
  ·rw[h];exact hne
  ·rw[h];intro e;injection e with e;omega
 have hb3:(w2.setCell ⟨b,1,none⟩ v').heap[b]? = some (.cells #[.pointer (some ⟨b,0,none⟩),v'] T (0,0)):=by
  simp[World.setCell,Array.getElem?_modify,hb2]
 have hother:∀g,g≠b→(w2.setCell ⟨b,1,none⟩ v').heap[g]? = w2.heap[g]? := fun g hgb=>Below.heap_setCell _ _ _ _ (fun e=>hgb (by simp[e]))
 have hloc:∀k,v'.ownBlock=some k→k∈bs∨w.heap.size≤k:=by
  intro k hk;rcases hat with h | h
  ·exact .inl (hbs k (h ▸ hk))
  ·rw[h] at hk;injection hk with hk;have:=hbut.size;exact .inr (by omega)
 have hkeep:But (· ∈ bs) w (w2.setCell ⟨b,1,none⟩ v'):=by
  have h1:But (· ∈ bs) w w1:=⟨hbut.os,hbut.tape,hbut.output,hbut.size,fun k hk ho=>hbut.same k hk (fun e=>ho (e ▸ hbb))⟩;exact (h1.grown hg (fun k hk => .inl (hbs k hk))).setCell (.inl hbb) 1 _
 refine ⟨b::v'.ownBlock.toList,⟨_,_,.inr rfl,hb3,hrow.kept fun g hgo=>hother g (fun e=>hne' (by rw[hgo,e])),hne',rfl⟩,fun k hk => ?_,hkeep⟩;rcases List.mem_cons.1 hk with rfl | hk
 ·exact .inl hbb
 ·exact hloc k (by simpa using hk)
set_option maxHeartbeats 2000000 in
set_option maxRecDepth 100000 in
theorem l1s (L:BldL P ρ) (X:Builder.Extra P ρ) (f167:P.funcs[ρ.f 167]? = some (Body.n167 ρ)) {b:Nat} {x:List UInt8} {bs:List Nat} (c:UInt8) (w:World) (h:p0t (ρ.t 72) (ρ.t 5) b x w bs) (hlen:x.length+1≤140737488355328) :
  Calls P (ρ.f 167) #[.pointer (some ⟨b,0,none⟩),.int .u8 (c.toNat:Int)] w fun e w'=>e = .returned .nilIface∧∃bs',p0t (ρ.t 72) (ρ.t 5) b (x++[c]) w' bs'∧(∀k∈bs',k∈bs∨w.heap.size≤k)∧But (· ∈ bs) w w':=by
 obtain ⟨p,v,hp,hbk0,hrow0,hne0,rfl⟩:=h;obtain ⟨i0,hi,hz0,hz1,hz2⟩:=info_parts X.infoByte;have mixed:=L.mixed;have t72:=L.t72;have a72:=L.a72;have z72:=L.z72;have v72:=L.v72;have u72:=run_underlying L.t72;have t70:=L.t70;have a70:=L.a70;have z70:=L.z70;have v70:=L.v70;have u70:=run_underlying L.t70;have t5:=L.t5;have a5:=L.a5;have z5:=L.z5;have v5:=L.v5;have u5:=run_underlying L.t5;have t37:=L.t37;have a37:=L.a37;have z37:=L.z37;have v37:=L.v37;have u37:=run_underlying L.t37;have t9:=L.t9;have a9:=L.a9;have z9:=L.z9;have v9:=L.v9;have u9:=run_underlying L.t9
 have t4:=L.t4;have a4:=L.a4;have z4:=L.z4;have v4:=L.v4;have u4:=run_underlying L.t4;have e240:=L.e240
 go_enter f167,Body.n167_ntmps ρ
 go_wp2_with (go_at_fn (ρ.f 240);refine (L.copy b p v w hp hbk0).mono ?_)
 rintro e w1 ⟨rfl,hbk,hbut,-⟩;have hlt:b<w1.heap.size:=b0q? hbk;have hrow:RowU (ρ.t 5) v x w1:=hrow0.kept fun g hg=>hbut.same g (hrow0.lt g hg) (fun e=>hne0 (by rw[hg,e]))
 have c0:w1.cell? ⟨b,0,none⟩=some (.pointer (some ⟨b,0,none⟩)):=by rw[Lib.cell_of_heap hbk];rfl
 have c1:w1.cell? ⟨b,1,none⟩=some v:=by rw[Lib.cell_of_heap hbk];rfl
 have hsrc:Src P (w1.alloc (.cells #[.int .u8 (c.toNat:Int)] (ρ.t 5))) 1 (.slice (some ⟨w1.heap.size,0,none⟩) 1 1) 1 (b0m [c]) :=
  ⟨rfl,fun w' hw'=>run_firstCells_some w' 1 1 ⟨w1.heap.size,0,none⟩ 1 1 (b0m [c]) rfl (fun j u hu=>by
   rw[hw',addr_add,Nat.zero_add,cell_of_row _ _ j _ _ _ (p0q w1 _)]
   match j,hu with
   | 0,hu=>simpa [b0m] using hu),rfl,x0k [c]⟩
 go_wp2_with (at_builtin;refine o0h (x:=x) (y:=[c]) rfl _ _ rfl rfl (fun u hu => .inl ⟨_,by cases hu;exact L.t37⟩) L.t37 hi hz0 hz1 hz2 rfl rfl (hrow.kept fun g hg=>m0t _ _ g (hrow.lt g hg)) hsrc (by simpa using hlen) ?_)
 intro a n q w2 hown' hgrow hat;have hbka:(w1.alloc (.cells #[.int .u8 (c.toNat:Int)] (ρ.t 5))).heap[b]? = some (.cells #[.pointer (some ⟨b,0,none⟩),v] (ρ.t 72) (0,0)):=(m0t _ _ b hlt).trans hbk;have hb2:w2.heap[b]? = some (.cells #[.pointer (some ⟨b,0,none⟩),v] (ρ.t 72) (0,0)):=by
  rw[hgrow.block b (b0q? hbka) (fun e=>hne0 e.symm)];exact hbka
 have d0:w2.cell? ⟨b,0,none⟩=some (.pointer (some ⟨b,0,none⟩)):=by rw[Lib.cell_of_heap hb2];rfl
 have d1:w2.cell? ⟨b,1,none⟩=some v:=by rw[Lib.cell_of_heap hb2];rfl
 have f1:w2.frozen? ⟨b,1,none⟩=false:=Lib.frozen_of_heap hb2 1
 go_wp2
 go_ret
 exact ⟨rfl,c2u X.neB5 hbka (hbut.alloc _) hown' hgrow (by rw[World.size_alloc];exact hat) hne0 (fun k hk=>by simp[hk]) (by simp)⟩
set_option maxHeartbeats 2000000 in
set_option maxRecDepth 100000 in
theorem c1p (L:BldL P ρ) (X:Builder.Extra P ρ) (f166:P.funcs[ρ.f 166]? = some (Body.n166 ρ)) {b:Nat} {x:List UInt8} {bs:List Nat} (s:List UInt8) (w:World) (h:p0t (ρ.t 72) (ρ.t 5) b x w bs) (hlen:x.length+s.length≤140737488355328) :
  Calls P (ρ.f 166) #[.pointer (some ⟨b,0,none⟩),.string ⟨s.toArray⟩] w fun e w'=>e = .returned (.tuple #[.int .i64 s.length,.nilIface])∧∃bs',p0t (ρ.t 72) (ρ.t 5) b (x++s) w' bs'∧(∀k∈bs',k∈bs∨w.heap.size≤k)∧But (· ∈ bs) w w':=by
 obtain ⟨p,v,hp,hbk0,hrow0,hne0,rfl⟩:=h;obtain ⟨i0,hi,hz0,hz1,hz2⟩:=info_parts X.infoByte;have mixed:=L.mixed;have t72:=L.t72;have a72:=L.a72;have z72:=L.z72;have v72:=L.v72;have u72:=run_underlying L.t72;have t70:=L.t70;have a70:=L.a70;have z70:=L.z70;have v70:=L.v70;have u70:=run_underlying L.t70;have t37:=L.t37;have a37:=L.a37;have z37:=L.z37;have v37:=L.v37;have u37:=run_underlying L.t37;have t3:=L.t3;have a3:=L.a3;have z3:=L.z3;have v3:=L.v3;have u3:=run_underlying L.t3;have t9:=L.t9;have a9:=L.a9;have z9:=L.z9;have v9:=L.v9;have u9:=run_underlying L.t9
 have t4:=L.t4;have a4:=L.a4;have z4:=L.z4;have v4:=L.v4;have u4:=run_underlying L.t4;have t5:=X.t5;have a5:=X.a5;have z5:=X.z5;have v5:=X.v5;have u5:=run_underlying X.t5;have e240:=L.e240
 go_enter f166,Body.n166_ntmps ρ
 go_wp2_with (go_at_fn (ρ.f 240);refine (L.copy b p v w hp hbk0).mono ?_)
 rintro e w1 ⟨rfl,hbk,hbut,-⟩;have hlt:b<w1.heap.size:=b0q? hbk;have hrow:RowU (ρ.t 5) v x w1:=hrow0.kept fun g hg=>hbut.same g (hrow0.lt g hg) (fun e=>hne0 (by rw[hg,e]))
 have c0:w1.cell? ⟨b,0,none⟩=some (.pointer (some ⟨b,0,none⟩)):=by rw[Lib.cell_of_heap hbk];rfl
 have c1:w1.cell? ⟨b,1,none⟩=some v:=by rw[Lib.cell_of_heap hbk];rfl
 go_wp2_with (at_builtin;refine o0h (x:=x) (y:=s) rfl _ _ rfl rfl (fun u hu => .inr (by cases hu;exact L.t9)) L.t37 hi hz0 hz1 hz2 rfl rfl hrow (x1q s) hlen ?_)
 intro a n q w2 hown' hgrow hat;have hb2:w2.heap[b]? = some (.cells #[.pointer (some ⟨b,0,none⟩),v] (ρ.t 72) (0,0)):=by
  rw[hgrow.block b hlt (fun e=>hne0 e.symm)];exact hbk
 have d0:w2.cell? ⟨b,0,none⟩=some (.pointer (some ⟨b,0,none⟩)):=by rw[Lib.cell_of_heap hb2];rfl
 have d1:w2.cell? ⟨b,1,none⟩=some v:=by rw[Lib.cell_of_heap hb2];rfl
 have f1:w2.frozen? ⟨b,1,none⟩=false:=Lib.frozen_of_heap hb2 1
 go_wp2
 go_ret2
 exact ⟨rfl,c2u X.neB5 hbk hbut hown' hgrow hat hne0 (fun k hk=>by simp[hk]) (by simp)⟩
theorem But.freeze {O:Nat→Prop} {w w1:World} (h:But O w w1) {g:Nat} (hg:O g) (n:Nat):But O w (w1.freeze ⟨g,0,none⟩ n):=by
 unfold World.freeze;split
 ·exact h
 ·exact ⟨h.os,h.tape,h.output,by simpa using h.size,fun k hk ho=>by
   simp only[Array.getElem?_modify];rw[if_neg (fun q=>ho (by rw[←q];exact hg))]
   exact h.same k hk ho⟩
theorem w1m {T e b g cap:Nat} {x:List UInt8} {p:Value} {cur:Array Value} {m:Nat×Nat} {w:World} (hp:p = .pointer none∨p = .pointer (some ⟨b,0,none⟩)) (hb:w.heap[b]? = some (.cells #[p,.slice (some ⟨g,0,none⟩) x.length cap] T (0,0)))
  (hg:w.heap[g]? = some (.cells cur e m)) (k0:m.1=m.2∨m.2≤x.length) (k1:x.length≤cap) (k2:cap≤maxLen∧0<cap) (k3:cur.size=cap) (k5:cur.toList.take x.length=b0m x) (hne:g≠b) (h0:x.length≠0) :
  p0t T e b x (w.drew.freeze ⟨g,0,none⟩ x.length) (b::(Value.slice (some ⟨g,0,none⟩) x.length cap).ownBlock.toList):=by
 refine ⟨p,_,hp,?_,.inr ⟨g,cap,cur,(if m.1==m.2 then (0,0+x.length) else (min m.1 0,max m.2 (0+x.length))),rfl,?_,?_,k1,k2,k3,k5⟩,by simp[Value.ownBlock,hne],rfl⟩
 ·unfold World.freeze;rw[if_neg h0];simp only[Array.getElem?_modify];rw[if_neg hne];exact hb
 ·unfold World.freeze;rw[if_neg h0];simp only[Array.getElem?_modify,if_true];have:w.drew.heap[g]? = some (.cells cur e m):=hg;rw[this];rfl
 ·right;split
  ·simp
  ·rename_i hq;have:m.1≠m.2:=by simpa using hq
   rcases k0 with k0 | k0
   ·exact absurd k0 this
   ·simp only;omega
set_option maxHeartbeats 2000000 in
set_option maxRecDepth 100000 in
theorem a2v (L:Lays.n169 P ρ) (X:Builder.Extra P ρ) {b:Nat} {x:List UInt8} {bs:List Nat} (w:World) (h:p0t (ρ.t 72) (ρ.t 5) b x w bs) :
  Calls P (ρ.f 169) #[.pointer (some ⟨b,0,none⟩)] w fun e w'=>e = .returned (.string ⟨x.toArray⟩)∧p0t (ρ.t 72) (ρ.t 5) b x w' bs∧But (· ∈ bs) w w':=by
 have hall:=h;obtain ⟨p,v,hp,hbk,hrow,hne,rfl⟩:=h;have mixed:=L.mixed;rcases hrow with ⟨rfl,rfl⟩ | ⟨g,cap,cur,m,rfl,hg,k0,k1,k2,k3,k5⟩
 ·have hUS:=Any.unsafeString_none L X;have c1:w.drew.cell? ⟨b,1,none⟩=some (.slice none 0 0):=by
   have:w.drew.heap[b]? = some (.cells #[p,.slice none 0 0] (ρ.t 72) (0,0)):=hbk;rw[Lib.cell_of_heap this];rfl
  have hSD:(Builtin.unsafeSliceData_ #[(ρ.t 37)] (ρ.t 127) #[.slice none 0 0]).run P w.drew = .ok (.pointer none) w.drew:=rfl;have t72:=L.t72;have a72:=L.a72;have z72:=L.z72;have v72:=L.v72;have u72:=run_underlying L.t72;have t70:=L.t70;have a70:=L.a70;have z70:=L.z70;have v70:=L.v70;have u70:=run_underlying L.t70;have t37:=L.t37;have a37:=L.a37;have z37:=L.z37;have v37:=L.v37;have u37:=run_underlying L.t37;have t127:=L.t127;have a127:=L.a127;have z127:=L.z127;have v127:=L.v127;have u127:=run_underlying L.t127
  have t3:=L.t3;have a3:=L.a3;have z3:=L.z3;have v3:=L.v3;have u3:=run_underlying L.t3;have t9:=L.t9;have a9:=L.a9;have z9:=L.z9;have v9:=L.v9;have u9:=run_underlying L.t9;have t5:=X.t5;have a5:=X.a5;have z5:=X.z5;have v5:=X.v5;have u5:=run_underlying X.t5
  go_enter L.f169,Body.n169_ntmps ρ
  go_wp2
  go_region_o
  all_goals (go_wp2;go_ret;exact ⟨rfl,hall.same (fun _ _=>rfl),(But.refl _ w).drew⟩)
 ·by_cases h0:x=[]
  ·subst h0;refine (Any.Builder_String_room L X w.heap.size b g cap p w (by omega) hbk).mono ?_;rintro e w' ⟨rfl,hB⟩;exact ⟨rfl,hall.same (fun c hc=>hB.block c (hall.lt c hc)),hB.os,hB.tape,hB.output,hB.size,fun k hk _=>hB.block k hk⟩
  have hfz:=w1m hp hbk hg k0 k1 k2 k3 k5 (by simpa [Value.ownBlock] using hne) (fun q=>h0 (List.eq_nil_of_length_eq_zero q));have c1:w.drew.cell? ⟨b,1,none⟩=some (.slice (some ⟨g,0,none⟩) x.length cap):=by
   have:w.drew.heap[b]? = some (.cells #[p,.slice (some ⟨g,0,none⟩) x.length cap] (ρ.t 72) (0,0)):=hbk;rw[Lib.cell_of_heap this];rfl
  have hSD:(Builtin.unsafeSliceData_ #[(ρ.t 37)] (ρ.t 127) #[.slice (some ⟨g,0,none⟩) x.length cap]).run P w.drew = .ok (.pointer (some ⟨g,0,none⟩)) w.drew :=
   Lib.run_unsafeSliceData_row _ _ _ _ _ _ (by omega)
  have hUS:(Builtin.unsafeString_ #[(ρ.t 127),(ρ.t 3)] (ρ.t 9) #[.pointer (some ⟨g,0,none⟩),.int .i64 x.length]).run P w.drew = .ok (.string ⟨x.toArray⟩) (w.drew.freeze ⟨g,0,none⟩ x.length):=by
   refine Lib.run_unsafeString_row w.drew (ρ.t 127) (ρ.t 3) (ρ.t 9) (ρ.t 5) L.t127 X.cellsByte g cur.size (by have hg':w.drew.heap[g]? = some (.cells cur (ρ.t 5) m):=hg;simp[World.shape?,hg']) x h0 (by omega) (by have:=k2.1;unfold maxLen at this;omega) ?_;intro j y hy;have hg':w.drew.heap[g]? = some (.cells cur (ρ.t 5) m):=hg;rw[addr_add,Nat.zero_add,cell_of_row _ g j cur _ _ hg',←Array.getElem?_toList];have h1:(cur.toList.take x.length)[j]? = some (.int .u8 y.toNat):=by rw[k5];simp[b0m,hy]
   rw[List.getElem?_take] at h1;split at h1
   ·exact h1
   ·cases h1
  have t72:=L.t72;have a72:=L.a72;have z72:=L.z72;have v72:=L.v72;have u72:=run_underlying L.t72;have t70:=L.t70;have a70:=L.a70;have z70:=L.z70;have v70:=L.v70;have u70:=run_underlying L.t70;have t37:=L.t37;have a37:=L.a37;have z37:=L.z37;have v37:=L.v37;have u37:=run_underlying L.t37;have t127:=L.t127;have a127:=L.a127;have z127:=L.z127;have v127:=L.v127;have u127:=run_underlying L.t127;have t3:=L.t3;have a3:=L.a3;have z3:=L.z3;have v3:=L.v3;have u3:=run_underlying L.t3;have t9:=L.t9;have a9:=L.a9;have z9:=L.z9;have v9:=L.v9;have u9:=run_underlying L.t9
  have t5:=X.t5;have a5:=X.a5;have z5:=X.z5;have v5:=X.v5;have u5:=run_underlying X.t5
  go_enter L.f169,Body.n169_ntmps ρ
  go_wp2
  go_region_o
  all_goals (go_wp2;go_ret;exact ⟨rfl,hfz,((But.refl _ w).drew).freeze (by simp[Value.ownBlock]) _⟩)
structure GrowL (P:Program) (ρ:Ren):Prop where
 f165:P.funcs[ρ.f 165]? = some (Body.n165 ρ)
 f241:P.funcs[ρ.f 241]? = some (Body.n241 ρ)
 e241:∀args w,(callFunc (ρ.f 241) args).run P w = .ok (.enter (ρ.f 241) args) w
 room:∀(n:Nat) (w:World),n≤281474976710656→∃cs:Array Value,(callFunc (ρ.f 277) #[.int .i64 n]).run P w = .ok (.value (.slice (some ⟨w.heap.size,0,none⟩) n cs.size)) (w.drew.drew.alloc (.cells cs (ρ.t 5)))∧n≤cs.size∧(n≤maxLen→cs.size≤maxLen)
end Go.Flat
end
section
set_option linter.unusedVariables false
namespace Go.Flat
open Go.Shelf Go.RowKit Go.Proofs
@[reducible] def c1q (s:Sig) (g:El (tupU s.ps)→Option (El s.out)):Hand:=⟨tupU s.ps,s.out,g⟩
def h1l:List (Nat×Hand)→Nat→Option Hand
 | [],_=>none
 | (m,H)::r,n=>bif Nat.beq m n then some H else h1l r n
theorem p1c {l:List (Nat×Hand)} {n:Nat} {H:Hand} (h:h1l l n=some H):(n,H)∈l:=by
 induction l with
 | nil=>cases h
 | cons p l ih =>
  obtain ⟨m,G⟩:=p;unfold h1l at h;cases hb:Nat.beq m n with
  | true =>
   rw[hb] at h;simp only[cond_true,Option.some.injEq] at h;rw[Nat.eq_of_beq_eq_true hb,h];simp
  | false =>
   rw[hb] at h;exact List.mem_cons_of_mem _ (ih h)
def h0b (P:Program) (G:World→Fz→Prop) (f:FuncId) (s:Sig) (g:El (tupU s.ps)→Option (El s.out)):Prop :=
 ∀x y,g x=some y→∀W F O vs,G W F→(∀b,F b→b<W.heap.size)→b0x s.ps vs→RdB P (tupU s.ps) x W F O (cat vs)→O.Nodup→(∀b∈O,¬F b) →
  Calls P f vs.toArray W fun e W'=>∃v F',e = .returned v∧Move W F O W' F'∧Ret P W O s vs s.out y W' F' v
theorem Ret.cast {P:Program} {W:World} {O:List Nat} {s:Sig} {args:List Value} {t u:Ty} (e:t=u) {y:El t} {W':World} {F':Fz} {v:Value} (h:Ret P W O s args t y W' F' v):Ret P W O s args u (e ▸ y) W' F' v:=by
 subst e;exact h
theorem i0m {cx:Cx} {f:FuncId} {s:Sig} {g:El (tupU s.ps)→Option (El s.out)} (hs:cx.sig f=some s) (hc:h0b cx.P (GlobOk cx) f s g) :
  ∀s',cx.sig f=some s'→∀(x:El (cx.arg f)) (y:El (cx.out f)),handF cx (c1q s g) f x=some y→∀W F O vs,GlobOk cx W F→(∀b,F b→b<W.heap.size)→b0x s'.ps vs→RdB cx.P (cx.arg f) x W F O (cat vs) →
   O.Nodup→(∀b∈O,¬F b)→Calls cx.P f vs.toArray W fun e W'=>∃v F',e = .returned v∧Move W F O W' F'∧Ret cx.P W O s' vs (cx.out f) y W' F' v:=by
 intro s' hs' x y hy W F O vs hG hF hf hx hO hOF;rw[hs] at hs';injection hs' with hs';subst hs';unfold handF at hy;cases hx':c0c (a:=cx.arg f) (b:=(c1q s g).a) x with
 | none=>rw[hx'] at hy;cases hy
 | some x' =>
  rw[hx'] at hy;simp only[Option.bind_some] at hy;obtain ⟨ex,rfl⟩:=a0u hx';have ex':cx.arg f=tupU s.ps:=ex;cases hg:g (ex' ▸ x) with
  | none=>rw[hg] at hy;cases hy
  | some z =>
   rw[hg] at hy;simp only[Option.bind_some] at hy;obtain ⟨ey,rfl⟩:=a0u hy;refine (hc _ _ hg W F O vs hG hF hf (RdB.cast ex' hx) hO hOF).mono ?_;rintro e W' ⟨v,F',h1,h2,h3⟩;exact ⟨v,F',h1,h2,h3.cast ey⟩
theorem But.move {W W':World} {F:Fz} {O:List Nat} (h:But (· ∈ O) W W') (hF:∀b,F b→b<W.heap.size) (hO:∀b∈O,¬F b):Move W F O W' F :=
 ⟨⟨h.os,h.tape,h.output,h.size,fun b hb=>h.same b (hF b hb) (fun k=>hO b k hb),fun _ hb=>hb⟩,fun b hb hn=>h.same b hb hn,fun _ hb => .inl hb⟩
theorem But.of_below {W W':World} (h:Below W.heap.size W W'):But (· ∈ ([]:List Nat)) W W':=⟨h.os,h.tape,h.output,h.size,fun k hk _=>h.block k hk⟩
section
variable {P:Program} {ρ:Ren} {G:World→Fz→Prop}
theorem y1i {T e:Nat} {ps:List Ty} {x:El (tupU (.sb T e::ps))} {W:World} {F:Fz} {O:List Nat} {vs:List Value} (hf:b0x (.sb T e::ps) vs) (hx:RdB P (tupU (.sb T e::ps)) x W F O (cat vs)) :
  ∃b bs O2 us,vs = .pointer (some ⟨b,0,none⟩)::us∧O=bs++O2∧p0t T e b x.1 W bs∧b0x ps us∧RdB P (tupU ps) x.2 W F O2 (cat us):=by
 match vs,hf with
 | v::us,hf =>
  obtain ⟨O1,O2,rfl,⟨u,h1,b,h2,h3⟩,h4⟩:=hx;have hc:v.cells = #[v]:=oneCell_cells (hf.1.2.1 rfl);rw[e0t hf.1.2.2 0 (by simp[width]),one,hc] at h1;have hv:v=u:=by simpa using h1
  rw[g0f hf.1.2.2] at h4;exact ⟨b,O1,O2,us,by rw[hv,h2],rfl,h3,hf.2,h4⟩
theorem k0z {t:Ty} {ps:List Ty} {x:El (tupU (t::ps))} {W:World} {F:Fz} {O:List Nat} {vs:List Value} (hw:width t=1) (ha:agg t=false) (hf:b0x (t::ps) vs) (hx:RdB P (tupU (t::ps)) x W F O (cat vs)) :
  ∃v us O1 O2,vs=v::us∧O=O1++O2∧RdB P t x.1 W F O1 (fun j=>if j=0 then some v else none)∧b0x ps us∧RdB P (tupU ps) x.2 W F O2 (cat us):=by
 match vs,hf with
 | v::us,hf =>
  obtain ⟨O1,O2,rfl,h1,h4⟩:=hx;have hc:v.cells = #[v]:=oneCell_cells (hf.1.2.1 ha);rw[g0f hf.1.2.2] at h4;refine ⟨v,us,O1,O2,rfl,rfl,RdB.congr t (fun j hj => ?_) h1,hf.2,h4⟩;rw[e0t hf.1.2.2 j hj,one,hc];have:j=0:=by omega
  subst this;rfl
noncomputable def h0v (x:List UInt8) (c:Int):Option (Bool×List UInt8):=tif (decide (0≤c)&&(decide (c≤255)&&decide (x.length+1≤140737488355328))) (some (false,x++[UInt8.ofNat c.toNat])) none
noncomputable def e0z (x s:List UInt8):Option (Int×(Bool×List UInt8)):=tif (decide (x.length+s.length≤140737488355328)) (some ((s.length:Int),(false,x++s))) none
theorem w0b (b:Bool) {v:Value} (h1:v.oneCell'=true):formed .err v:=⟨(fun e=>by cases e),(fun _=>h1),by rw[oneCell_cells h1];rfl⟩
theorem l1q (L:BldL P ρ) (X:Builder.Extra P ρ) (f167:P.funcs[ρ.f 167]? = some (Body.n167 ρ)):h0b P G (ρ.f 167) ⟨[.sb (ρ.t 72) (ρ.t 5),.int .u8],[.err],[0]⟩ (fun x=>h0v x.1 x.2.1):=by
 intro x y hy W F O vs _ hF hf hx hO hOF;obtain ⟨b,bs,O2,us,rfl,rfl,hb,hf2,hx2⟩:=y1i hf hx;obtain ⟨v,us2,O3,O4,rfl,rfl,⟨rfl,hv⟩,hf3,hx3⟩:=k0z rfl rfl hf2 hx2
 match us2,hf3 with
 | [],_ =>
 have hO4:O4=[]:=hx3;subst hO4;simp only[List.append_nil] at hO hOF ⊢;have hv:v = .int .u8 x.2.1:=by simpa [Rd,RdP] using hv
 subst hv;unfold h0v at hy;dsimp only at hy;rw[c0r] at hy;split at hy
 case isFalse=>cases hy
 rename_i hcond;simp only[Bool.and_eq_true,decide_eq_true_eq] at hcond;obtain ⟨h0,h255,hlen⟩:=hcond;injection hy with hy;subst hy;have hc:((UInt8.ofNat x.2.1.toNat).toNat:Int)=x.2.1:=by
  rw[UInt8.toNat_ofNat'];omega
 have:=l1s L X f167 (UInt8.ofNat x.2.1.toNat) W hb hlen;rw[hc] at this;refine this.mono ?_;rintro e W' ⟨rfl,bs',h1,h2,h3⟩;refine ⟨_,F,rfl,h3.move hF hOF,[.nilIface],bs',⟨w0b false rfl,trivial⟩,rfl,⟨[],bs',rfl,⟨rfl,.nilIface,rfl,rfl,fun _=>rfl,fun e=>by cases e⟩,_,rfl,b,rfl,h1⟩,h1.nodup,fun k hk hf => ?_,h2⟩;rcases h2 k hk with q | q
 ·exact hOF k q hf
 ·have:=hF k hf;omega
theorem c1o (L:BldL P ρ) (X:Builder.Extra P ρ) (f166:P.funcs[ρ.f 166]? = some (Body.n166 ρ)):h0b P G (ρ.f 166) ⟨[.sb (ρ.t 72) (ρ.t 5),.str],[.int .i64,.err],[0]⟩ (fun x=>e0z x.1 x.2.1):=by
 intro x y hy W F O vs _ hF hf hx hO hOF;obtain ⟨b,bs,O2,us,rfl,rfl,hb,hf2,hx2⟩:=y1i hf hx;obtain ⟨v,us2,O3,O4,rfl,rfl,⟨rfl,hv⟩,hf3,hx3⟩:=k0z rfl rfl hf2 hx2
 match us2,hf3 with
 | [],_ =>
 have hO4:O4=[]:=hx3;subst hO4;simp only[List.append_nil] at hO hOF ⊢;have hv:v = .string ⟨x.2.1.toArray⟩:=by simpa [Rd,RdP] using hv
 subst hv;unfold e0z at hy;dsimp only at hy;rw[c0r] at hy;split at hy
 case isFalse=>cases hy
 rename_i hcond;simp only[decide_eq_true_eq] at hcond;injection hy with hy;subst hy;refine (c1p L X f166 x.2.1 W hb hcond).mono ?_;rintro e W' ⟨rfl,bs',h1,h2,h3⟩;refine ⟨_,F,rfl,h3.move hF hOF,[.int .i64 x.2.1.length,.nilIface],bs',⟨⟨(fun e=>by cases e),(fun _=>rfl),rfl⟩,w0b false rfl,trivial⟩,rfl,
  ⟨[],bs',rfl,⟨rfl,rfl⟩,[],bs',rfl,⟨rfl,.nilIface,rfl,rfl,fun _=>rfl,fun e=>by cases e⟩,_,rfl,b,rfl,h1⟩,h1.nodup,fun k hk hf => ?_,h2⟩
 rcases h2 k hk with q | q
 ·exact hOF k q hf
 ·have:=hF k hf;omega
theorem a2u (L:Lays.n169 P ρ) (X:Builder.Extra P ρ):h0b P G (ρ.f 169) ⟨[.sb (ρ.t 72) (ρ.t 5)],[.str],[0]⟩ (fun x=>some (x.1,x.1)):=by
 intro x y hy W F O vs _ hF hf hx hO hOF;obtain ⟨b,bs,O2,us,rfl,rfl,hb,hf2,hx2⟩:=y1i hf hx
 match us,hf2 with
 | [],_ =>
 have hO4:O2=[]:=hx2;subst hO4;simp only[List.append_nil] at hO hOF ⊢;injection hy with hy;subst hy;refine (a2v L X W hb).mono ?_;rintro e W' ⟨rfl,h2,h3⟩;exact ⟨_,F,rfl,h3.move hF hOF,[_],bs,⟨⟨(fun e=>by cases e),(fun _=>rfl),rfl⟩,trivial⟩,rfl,⟨[],bs,rfl,⟨rfl,rfl⟩,_,rfl,b,rfl,h2⟩,h2.nodup,hOF,fun k hk => .inl hk⟩
end
end Go.Flat
end
section
set_option linter.unusedVariables false
namespace Go.Flat
open Go.Shelf Go.RowKit Go.Proofs
section
variable {P:Program} {G:World→Fz→Prop}
theorem a2t {f:FuncId} {g:List UInt8→List UInt8→Int} {D:List UInt8→List UInt8→Bool}
  (h:∀s t W F,G W F→D s t=true→Calls P f #[.string ⟨s.toArray⟩,.string ⟨t.toArray⟩] W fun e W'=>e = .returned (.int .i64 (g s t))∧W'=W) :
  h0b P G f ⟨[.str,.str],[.int .i64],[]⟩ (fun x=>tif (D x.1 x.2.1) (some (g x.1 x.2.1)) none):=by
 intro x y hy W F O vs hG hF hf hx hO hOF;obtain ⟨v,us,O1,O2,rfl,rfl,⟨rfl,hv⟩,hf2,hx2⟩:=k0z rfl rfl hf hx;obtain ⟨v2,us2,O3,O4,rfl,rfl,⟨rfl,hv2⟩,hf3,hx3⟩:=k0z rfl rfl hf2 hx2
 match us2,hf3 with
 | [],_ =>
 have hO4:O4=[]:=hx3;subst hO4;simp only[List.append_nil] at hO hOF ⊢;have hv:v = .string ⟨x.1.toArray⟩:=by simpa [Rd,RdP] using hv
 have hv2:v2 = .string ⟨x.2.1.toArray⟩:=by simpa [Rd,RdP] using hv2
 subst hv hv2;dsimp only at hy;rw[c0r] at hy;split at hy
 case isFalse=>cases hy
 rename_i hcond;injection hy with hy;subst hy;refine (h x.1 x.2.1 W F hG hcond).mono ?_;rintro e W' ⟨rfl,rfl⟩;exact ⟨_,F,rfl,(But.refl (· ∈ ([]:List Nat)) _).move hF hOF,[_],[],⟨⟨(fun e=>by cases e),(fun _=>rfl),rfl⟩,trivial⟩,rfl,⟨rfl,rfl⟩,List.nodup_nil,fun b hb=>(by cases hb),fun b hb=>(by cases hb)⟩
theorem r1t {f:FuncId} {k:IntKind} {g:Int→List UInt8→Int×Bool} {D:List UInt8→Int→Int→Bool}
  (h:∀s base bits W F,G W F→D s base bits=true→Calls P f #[.string ⟨s.toArray⟩,.int .i64 base,.int .i64 bits] W fun e W' =>
   ∃u,e = .returned (.tuple #[.int k (g bits s).1,u])∧u.oneCell'=true∧((g bits s).2=false→u = .nilIface)∧((g bits s).2=true→∃t p,u = .iface t p)∧Below W.heap.size W W') :
  h0b P G f ⟨[.str,.int .i64,.int .i64],[.int k,.err],[]⟩ (fun x=>tif (D x.1 x.2.1 x.2.2.1) (some (g x.2.2.1 x.1)) none):=by
 intro x y hy W F O vs hG hF hf hx hO hOF;obtain ⟨v,us,O1,O2,rfl,rfl,⟨rfl,hv⟩,hf2,hx2⟩:=k0z rfl rfl hf hx;obtain ⟨v2,us2,O3,O4,rfl,rfl,⟨rfl,hv2⟩,hf3,hx3⟩:=k0z rfl rfl hf2 hx2;obtain ⟨v3,us3,O5,O6,rfl,rfl,⟨rfl,hv3⟩,hf4,hx4⟩:=k0z rfl rfl hf3 hx3
 match us3,hf4 with
 | [],_ =>
 have hO6:O6=[]:=hx4;subst hO6;simp only[List.append_nil] at hO hOF ⊢;have hv:v = .string ⟨x.1.toArray⟩:=by simpa [Rd,RdP] using hv
 have hv2:v2 = .int .i64 x.2.1:=by simpa [Rd,RdP] using hv2
 have hv3:v3 = .int .i64 x.2.2.1:=by simpa [Rd,RdP] using hv3
 subst hv hv2 hv3;dsimp only at hy;rw[c0r] at hy;split at hy
 case isFalse=>cases hy
 rename_i hcond;injection hy with hy;subst hy;refine (h x.1 x.2.1 x.2.2.1 W F hG hcond).mono ?_;rintro e W' ⟨u,rfl,hu1,hu2,hu3,hb⟩;refine ⟨_,F,rfl,(But.of_below hb).move hF hOF,[.int k (g x.2.2.1 x.1).1,u],[],⟨⟨(fun e=>by cases e),(fun _=>rfl),rfl⟩,w0b true hu1,trivial⟩,rfl,?_,List.nodup_nil,fun b hb=>(by cases hb),fun b hb=>(by cases hb)⟩;refine ⟨[],[],rfl,⟨rfl,rfl⟩,rfl,u,?_,hu1,hu2,hu3⟩;have hc:u.cells = #[u]:=oneCell_cells hu1;show cat [.int k (g x.2.2.1 x.1).1,u] (width (.int k)+0)=some u
 rw[show cat [.int k (g x.2.2.1 x.1).1,u] (width (.int k)+0)=cat [u] 0 from congrFun (g0f (t := .int k) (v := .int k (g x.2.2.1 x.1).1) (vs:=[u]) rfl) 0,e0t (t := .err) (v:=u) (vs:=[]) (by rw[hc];rfl) 0 (by simp[width]),one,hc];rfl
end
end Go.Flat
end
