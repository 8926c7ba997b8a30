/-
  Soundness of the flat reading, thirteenth part: new boxes; values that are built.
-/
import Derived.Test.YtmooabafkcfbhaaFlatT3
namespace Go.Flat
open Go.RowKit (Below)

section
variable {cx : Cx} {call : Oracle cx} {fx : Hints} {W W' : World} {F F' : Fz} {E E' : EnvM} {h : Heap} {N : Nat → Prop} {ρ : Operand → V} {a : Act} {R : Type}

theorem al_new (w : World) (o : Obj) : (w.alloc o).heap[w.heap.size]? = some o := by
  show (w.heap.push o)[w.heap.size]? = some o
  simp
theorem al_old (w : World) (o : Obj) (i : Nat) (h : i < w.heap.size) : (w.alloc o).heap[i]? = w.heap[i]? := by
  show (w.heap.push o)[i]? = w.heap[i]?
  rw [Array.getElem?_push, if_neg (Nat.ne_of_lt h)]
theorem zero_length : ∀ t : Ty, (zeroCells t).length = width t := by
  intro t
  induction t with
  | pair a b iha ihb => simp [zeroCells, width, iha, ihb]
  | wrap e ih => simp [zeroCells, width, ih]
  | _ => rfl

/-- names that are turned are names that are spoken of -/
def KOk (N : Nat → Prop) (h : Heap) (k : V → Ups → Option R) : Prop := ∀ x u r, k x u = some r → ∀ n ∈ upNames u, N n ∧ n < h.length

theorem OpOk.of {P : Program} {o : Oper} {x : V} {v : Value} {u : Ups} (hrun : (execOp a.eval o).run P W = .ok (.value v) W') (hp : OpPost P W F E N h W' F' E' u) (hv : RdV P W' F' E' x v) :
    OpOk P o a W F E N h x u := by
  intro next Q hn
  unfold Oper.wp
  rw [hrun]
  exact hn v W' F' E' hp hv
theorem OpOk.skip {P : Program} {o : Oper} {u : Ups} (hrun : (execOp a.eval o).run P W = .ok .skip W') (hp : OpPost P W F E N h W' F' E' u) :
    OpOk P o a W F E N h .undef u := by
  intro next Q hn
  unfold Oper.wp
  rw [hrun]
  exact hn Go.undef W' F' E' hp rfl

theorem fzPlus_nil : FzPlus F h E [] = F := by
  funext b; apply propext
  constructor
  · rintro (h1 | ⟨n, hn, _⟩)
    · exact h1
    · cases hn
  · exact .inl

/-- a new block at a name -/
theorem OpPost.new {P : Program} {nm : Nat} {B : Blk} {T : TypeId} {cs : Array Value} {W0 : World} (hr : HR P W F E N h) (hF : ∀ b, F b → b < W.heap.size) (hN : N nm) (hlt : nm < h.length)
    (hW : W.grownBy W0 none) (hW0 : W0.heap.size = W.heap.size) {L : Loc} (hL : L.blk = some W.heap.size)
    {ns : List Nat} (hB : BlkRel P (W0.alloc (.cells cs T)) (FzPlus F h E ns) (E.next nm (some L)) L B) :
    OpPost P W F E N h (W0.alloc (.cells cs T)) (FzPlus F h E ns) (E.next nm (some L)) (freezeUps h ns ++ [(nm, verOf h nm + 1, some B)]) := by
  rw [verOf_top hr hN hlt]
  refine OpPost.turn (row := none) hr hF hN hlt (EnvM.next_le _ _ _) (EnvM.next_top _ _ _) (fun m hm => EnvM.next_other _ _ _ m hm) ?_ (fun b hb => by cases hb) (fun _ hb => hb) (fun _ hb => .inl hb)
    ⟨L, EnvM.next_m _ _ _, hB, fun x hx => .inr ?_⟩
  · exact ⟨hW.os, hW.tape, hW.output, by simp [hW0], fun k hk _ => by rw [← hW.block k hk (by simp)]; exact al_old _ _ k (by omega)⟩
  · rw [hL] at hx
    injection hx with hx
    simp [hW0]; omega

theorem op_alloc {o : Oper} {k : V → Ups → Option R} {r : R} {t : TypeId} {c : Ty} (cc : Ctx cx call W F E N h ρ a) (hK : KOk N h k) (ho : o.op = .alloc t) (ht : cx.ty t = some c)
    (hk : k (.v false [.loc (nmOf fx o) (verOf h (nmOf fx o) + 1) 0]) [(nmOf fx o, verOf h (nmOf fx o) + 1, some (.box c (zeroCells c) false))] = some r) : Sound cx W F E N h a o k r := by
  have hty := ty_of cc.tab ht
  obtain ⟨ti, h1, h2, z, h3, h4, h5⟩ := hty.ti
  obtain ⟨hN, hlt⟩ := hK _ _ _ hk (nmOf fx o) (by simp [upNames])
  have hpost := OpPost.new (T := t) (cs := z.cells) (W0 := W) (ns := []) (L := .box W.heap.size) (B := .box c (zeroCells c) false) cc.hr cc.hF hN hlt ⟨rfl, rfl, rfl, Nat.le_refl _, fun _ _ _ => rfl⟩ rfl rfl
    (by
      rw [fzPlus_nil]
      refine ⟨_, _, _, rfl, al_new W _, eqLits_rd h4, ?_, fun _ hf => ?_, fun e => by cases e⟩
      · exact zero_length c
      · have := cc.hF _ hf; omega)
  refine ⟨_, _, hk, OpOk.of (v := .pointer (some ⟨W.heap.size, 0, none⟩)) ?_ hpost (RdV.mk1 ⟨?_, ⟨.box W.heap.size, ?_⟩, fun L hL => ?_⟩ rfl)⟩
  · simp [execOp, ho, Instr.alloc, zeroValue, typeInfo, h1, h3, newVar, newRow]
  · rw [verOf_top cc.hr hN hlt, EnvM.next_top]; exact Nat.le_refl _
  · rw [verOf_top cc.hr hN hlt, EnvM.next_m]
  · rw [verOf_top cc.hr hN hlt, EnvM.next_m] at hL
    injection hL with hL
    subst hL
    rfl

theorem op_box {o : Oper} {k : V → Ups → Option R} {r : R} {t : TypeId} {c : Ty} {x : Operand} {ag : Bool} {cs : List Cell} (cc : Ctx cx call W F E N h ρ a) (hK : KOk N h k) (ho : o.op = .box t x)
    (hx : ρ x = .v ag cs) (hl : cs.length = width c)
    (hk : k (.v false [.loc (nmOf fx o) (verOf h (nmOf fx o) + 1) 0]) [(nmOf fx o, verOf h (nmOf fx o) + 1, some (.box c cs false))] = some r) : Sound cx W F E N h a o k r := by
  obtain ⟨hN, hlt⟩ := hK _ _ _ hk (nmOf fx o) (by simp [upNames])
  have hv := cc.ρ x
  rw [hx] at hv
  have hlater : Later W F (W.alloc (.cells (a.eval x).cells t)) F := ⟨rfl, rfl, rfl, by simp, fun b hb => al_old W _ b (cc.hF b hb), fun _ hb => hb⟩
  have hpost := OpPost.new (T := t) (cs := (a.eval x).cells) (W0 := W) (ns := []) (L := .box W.heap.size) (B := .box c cs false) cc.hr cc.hF hN hlt ⟨rfl, rfl, rfl, Nat.le_refl _, fun _ _ _ => rfl⟩ rfl rfl
    (by
      rw [fzPlus_nil]
      refine ⟨_, _, _, rfl, al_new W _, RdCells.later hv.1 hlater (EnvM.next_le _ _ _), hl, fun _ hf => ?_, fun e => by cases e⟩
      have := cc.hF _ hf; omega)
  refine ⟨_, _, hk, OpOk.of (v := .pointer (some ⟨W.heap.size, 0, none⟩)) ?_ hpost (RdV.mk1 ⟨?_, ⟨.box W.heap.size, ?_⟩, fun L hL => ?_⟩ rfl)⟩
  · simp [execOp, ho, Instr.box, newVar, newRow]
  · rw [verOf_top cc.hr hN hlt, EnvM.next_top]; exact Nat.le_refl _
  · rw [verOf_top cc.hr hN hlt, EnvM.next_m]
  · rw [verOf_top cc.hr hN hlt, EnvM.next_m] at hL
    injection hL with hL
    subst hL
    rfl

end
end Go.Flat
