/-
 Rows whose code reads variables of Go's library of which the kind alone is asked: what the row's first world says of them.
-/
import Derived.Test.YtjionkknnajjgaaGreatDoorFlatM4
import Derived.Handed
import Derived.Shelf.Vars
set_option linter.unusedVariables false
namespace Go.Flat
open Go.ChangeShapes Go.WideShapes
theorem v1y:∀ {l:List (Nat×Nat)} {g k:Nat},a1y l g=some k→(g,k)∈l:=by
 intro l;induction l with
 | nil=>intro g k h;cases h
 | cons y l ih =>
  intro g k h;obtain ⟨m,z⟩:=y;unfold a1y at h;cases hb:Nat.beq m g with
  | true =>
   rw[hb] at h;simp only[cond_true,Option.some.injEq] at h;subst h;rw[Nat.eq_of_beq_eq_true hb];simp
  | false =>
   rw[hb] at h;exact List.mem_cons_of_mem _ (ih h)
theorem lt_of_cell {w:World} {g:Nat} {v:Value} (h:w.cell? ⟨g,0,none⟩=some v):g<w.heap.size:=by
 unfold World.cell? at h;split at h
 ·rename_i hb;exact b0q? hb
 ·cases h
theorem shp_num {P:Program} {w:World} {g:Nat} (h:∃m,w.cell? ⟨g,0,none⟩=some (.int .i64 m)):g<w.heap.size∧r0u 1 (w.cell? ⟨g,0,none⟩):=by
 obtain ⟨m,hm⟩:=h;exact ⟨lt_of_cell hm,m,hm⟩
theorem s1x {P:Program} {w:World} {t:TypeId} {cs:List Value} {nm:String} {d:DataW Unit} {p:List MemPlace}:∀ {fuel:Nat},
  DataW.trod (fun _=>()) P w 0 (fun _=>true) false fuel t cs=some (.iface nm d,p)→∃u v,cs=[.iface u v]:=by
 intro fuel h;cases fuel with
 | zero=>cases h
 | succ fuel =>
  unfold DataW.trod at h;split at h
  all_goals first
   | exact ⟨_,_,rfl⟩
   | (exfalso;simp at h;done)
   | (exfalso;split at h<;>simp at h;done)
   | (exfalso;simp only[Option.map_eq_some_iff,Option.bind_eq_some_iff] at h;obtain ⟨_,_,h⟩:=h;simp at h;done)
   | skip
  ·exfalso;dsimp only at h;split at h
   ·simp only[Option.bind_eq_some_iff] at h;obtain ⟨_,_,h⟩:=h;simp only[Option.map_eq_some_iff] at h;obtain ⟨_,_,h⟩:=h;simp at h
   ·cases h
  ·exfalso;split at h
   ·split at h
    ·simp only[Option.bind_eq_some_iff] at h;obtain ⟨_,_,h⟩:=h;split at h<;>simp at h
    ·cases h
   ·cases h
theorem e1c {P:Program} {w:World} {l:List (String×DataW Unit)} (h:∃ps,DataW.LaidVars P w l ps) {nm tn:String} {d dd:DataW Unit} (hd:dd = .iface tn d) (hm:(nm,dd)∈l) {g:Nat} (hg:P.globalNamed nm=some g) :
  g<w.heap.size∧r0u 2 (w.cell? ⟨g,0,none⟩):=by
 subst hd;obtain ⟨ps,h⟩:=h;induction l generalizing ps with
 | nil=>cases hm
 | cons y l ih =>
  obtain ⟨n',d'⟩:=y;obtain ⟨g',t',cs,fuel,p,q,k1,k2,k3,k4,k5,_⟩:=h;rcases List.mem_cons.1 hm with e | hm
  ·injection e with e1 e2;subst e1 e2;rw[hg] at k1;injection k1 with k1;subst k1;obtain ⟨u,v,hcs⟩:=s1x k4;have hv:=World.var?_cell hg k3 0;have h0:cs[0]? = some (.iface u v):=by rw[←Array.getElem?_toList,hcs];rfl
   rw[h0] at hv;exact ⟨lt_of_cell hv,_,hv,.inr ⟨u,v,rfl⟩⟩
  ·exact ih hm q k5
theorem w0a {H:Type} {enc:TypeId×Value→H} {a:Assume} {C:Checked} {os:Os} {f:FuncId} {fn:Func} {s:ChangeSpec} {conds:List PathCond} {apart fresh handsOn again:Bool} {X:World→Array Value→Prop}
  (hX:∀(w w':World) (args:Array Value),w.heap=w'.heap→X w args→X w' args)
  (own:ownKnob C.prog.godebug=none) (started:os.Started) (noInit:C.prog.inits.idxOf? f=none) (hfn:C.prog.funcs[f]? = some fn)
  (witness:∃(w:World) (tape:Tape) (i:Input),w.os=os∧(w.forCall tape i).Shaped C.prog∧i.vars=[]∧Input.okWide C.prog (w.forCall tape i) .any w.heap.size f i ∧
   ((s.pre enc C.prog fn conds apart (w.forCall tape i).memory i.args∧X (w.forCall tape i).memory i.args)∧sizedMet enc C.prog fn (OpenSpec.ofChange s) apart (w.forCall tape i).memory i.args)∧a.holds C.prog (lone (Frame.enter C.prog f i.args .normal) [] (w.forCall tape i)))
  (contract:∀(W:World) (base:Nat) (args:Array Value) (ds gs:List (DataW H)) (before:List MemPlace),
   (∀(j:Nat) t v,fn.params[j]? = some t→args[j]? = some v→Value.okWide C.prog W .any base t v) →
   DataW.Whole enc C.prog fn.params.toList s.vars apart W args.toList ds gs before →
   conds.all (PathCond.test C.prog ⟨fn.params.toList,ds,s.plain.varTypes C.prog,gs⟩)=true →
   (DataW.weightsEach C.prog (fn.params.toList++s.plain.varTypes C.prog) (ds++gs)).all (· ≤ reachBytes)=true→X W args→W.ShapedOpen C.prog →
   a.holds C.prog (lone (Frame.enter C.prog f args .normal) [] W) →
   Calls C.prog f args W fun e W'=>∃v,e = .returned v∧s.post enc C.prog fn apart fresh handsOn again W args v W') :
  ReturnsInHanded a C os f .any (fun w args=>(s.pre enc C.prog fn conds apart w args∧X w args)∧sizedMet enc C.prog fn (OpenSpec.ofChange s) apart w args) (s.post enc C.prog fn apart fresh handsOn again):=by
 refine returnsInHanded_of_calls own started noInit witness ?_;intro w tape i _ hsh _ hok hpre hholds;obtain ⟨_,_,_,fn',hfn',_,_,_,_,hval⟩:=hok;obtain rfl:fn'=fn:=Option.some.inj (hfn'.symm.trans hfn);obtain ⟨⟨⟨ds,gs,before,hw,hc⟩,hx⟩,hz⟩:=hpre;refine (contract (w.forCall tape i) w.heap.size i.args ds gs before hval (DataW.Whole.of_heap (w':=w.forCall tape i) (by rfl) hw) hc (hz.weights hw) (hX _ _ _ (by rfl) hx) hsh hholds).mono fun e W' ⟨v,he,hp⟩ => ?_
 subst he;exact ChangeSpec.post_blind hp
end Go.Flat
