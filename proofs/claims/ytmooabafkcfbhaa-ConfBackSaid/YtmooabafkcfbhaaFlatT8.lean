/-
  Soundness of the flat reading, seventeenth part: slices that are built; closures.
-/
import Derived.Test.YtmooabafkcfbhaaFlatT7
namespace Go.Flat
open Go.RowKit (Below)

section
variable {cx : Cx} {call : Oracle cx} {fx : Hints} {W W' : World} {F F' : Fz} {E E' : EnvM} {h : Heap} {N : Nat → Prop} {ρ : Operand → V} {a : Act} {R : Type}

theorem sameW_pos {et : TypeId} {e : Ty} (hw : sameW cx et e = true) : 0 < width e := by
  unfold sameW at hw
  simp only [Bool.and_eq_true, Bool.not_eq_true'] at hw
  rcases Nat.eq_zero_or_pos (width e) with q | q
  · rw [q] at hw; exact absurd hw.2 (by decide)
  · exact q

theorem op_buildSlice {o : Oper} {k : V → Ups → Option R} {r : R} {t et : TypeId} {n : Nat} {ps : Array (Nat × Operand)} {e : Ty} {ls : List (List Cell)} {xs : List (El e)} {lent : List Nat}
    (cc : Ctx cx call W F E N h ρ a) (hK : KOk N h k) (ho : o.op = .buildSlice t n ps)
    (hs : cx.shp t = .slice et) (he : cx.ty et = some e) (hp : partsAt (width e) (List.replicate n (zeroCells e)) (ps.toList.map fun x => (x.1, ρ x.2)) = some ls)
    (hw : (sameW cx et e && Nat.ble (n * width e) 16777216) = true) (hx : parseEach cx call h e ls = some (xs, lent))
    (hk : (if ownAt fx o then k (.v false [.lall (nmOf fx o) (verOf h (nmOf fx o) + 1)]) (freezeUps h (if shares e then lent else []) ++ [(nmOf fx o, verOf h (nmOf fx o) + 1, some (.arr e xs false))])
            else k (.v false [.val (.slice e) xs]) (freezeUps h (if shares e then lent else []))) = some r) : Sound cx W F E N h a o k r := by
  simp only [Bool.and_eq_true] at hw
  have hle : n * width e ≤ 16777216 := Nat.le_of_ble_eq_true hw.2
  have hwpos := sameW_pos hw.1
  obtain ⟨ti, t1, t2, z, t3, t4, t5⟩ := (ty_of cc.tab he).ti
  have hzc : RdCells cx.P W F E (zeroCells e) z.cells.toList := eqLits_rd t4
  have hzsz : z.cells.size = width e := by have := hzc.1; rw [zero_length] at this; simpa using this.symm
  have hrows : RdRows cx.P W F E (width e) (List.replicate n (zeroCells e)) (madeCells z.cells (n * width e)) := by
    refine ⟨by rw [size_madeCells, List.length_replicate], made_one (RdCells.one_all hzc) (by omega), fun i c hi => ?_⟩
    have hin : i < n := by
      rcases Nat.lt_or_ge i n with q | q
      · exact q
      · rw [List.getElem?_eq_none (by simpa using q)] at hi; cases hi
    rw [List.getElem?_replicate, if_pos hin] at hi
    injection hi with hi
    subst hi
    have : ((madeCells z.cells (n * width e)).toList.drop (i * width e)).take (width e) = z.cells.toList := by
      apply List.ext_getElem?
      intro q
      rw [List.getElem?_take, List.getElem?_drop, Array.getElem?_toList]
      by_cases hq : q < width e
      · rw [if_pos hq, made_get (row_lt hin hq), hzsz]
        have : (i * width e + q) % width e = q := by rw [Nat.mul_comm, Nat.mul_add_mod, Nat.mod_eq_of_lt hq]
        rw [this, getElem!_pos z.cells q (by omega)]
        simp [hzsz, hq]
      · rw [if_neg hq, List.getElem?_eq_none (by simp [hzsz]; omega)]
    rw [this]
    exact hzc
  obtain ⟨us, u1, u2, u3⟩ := partsAt_rd (width e) ps.toList _ _ ls cc.ρ hp hrows
  obtain ⟨x1, x2⟩ := parseEach_rd cc.hc cc.hr rfl ls xs lent us.toList hx u2.2.2
  rw [List.length_replicate] at u3
  have hxn : xs.length = n := by rw [x1, u3]
  have hrun : (Instr.buildSlice t n (ps.map fun x => (x.1, a.eval x.2))).run cx.P W = .ok (.slice (some ⟨W.heap.size, 0, none⟩) n n) (W.alloc (.cells us et)) := by
    have hu := shp_slice cc.tab hs
    by_cases hn : n * width e = 0
    · have e0 : madeCells z.cells (n * width e) = #[] := by rw [hn]; simp [madeCells]
      rw [e0] at u1
      simp [Instr.buildSlice, run_underlying hu, sizeOf, typeInfo, t1, t2, hn, newRow, Array.range_zero', u1]
    · unfold madeCells at u1
      simp [Instr.buildSlice, run_underlying hu, sizeOf, typeInfo, t1, t2, hn, show ¬ 16777216 < n * width e by omega, zeroValue, t3, newRow, u1]
  have hl1 : Later W (FzPlus F h E (if shares e = true then lent else [])) (W.alloc (.cells us et)) (FzPlus F h E (if shares e = true then lent else [])) :=
    ⟨rfl, rfl, rfl, by simp, fun b hb => al_old W _ b (FzPlus.lt cc.hr cc.hF hb), fun _ hb => hb⟩
  have hexec : (execOp a.eval o).run cx.P W = .ok (.value (.slice (some ⟨W.heap.size, 0, none⟩) n n)) (W.alloc (.cells us et)) := by simp [execOp, ho, hrun]
  split at hk
  · -- of one's own
    obtain ⟨hN, hlt⟩ := hK _ _ _ hk (nmOf fx o) (by simp [upNames])
    have hpost := OpPost.new (T := et) (cs := us) (W0 := W) (ns := if shares e = true then lent else []) (L := .arr W.heap.size (width e) xs.length n) (B := .arr e xs false) cc.hr cc.hF hN hlt ⟨rfl, rfl, rfl, Nat.le_refl _, fun _ _ _ => rfl⟩ rfl rfl
      (by
        refine .inr ⟨W.heap.size, n, rfl, ⟨_, et, al_new W _, by rw [u2.1, u3], by omega, ?_, u2.2.1, fun i hi => ?_⟩, fun _ hf => ?_, fun e => by cases e⟩
        · have : n ≤ n * width e := Nat.le_mul_of_pos_right _ hwpos
          simp only [maxLen]; omega
        · have := (Rd.lent (x2 i hi)).later hl1
          refine Rd.congr e (fun q hq => ?_) this
          simp
        · have := FzPlus.lt cc.hr cc.hF hf; omega)
    refine ⟨_, _, hk, OpOk.of hexec hpost (RdV.mk1 ⟨?_, ⟨.arr W.heap.size (width e) xs.length n, ?_⟩, fun L hL => ?_⟩ rfl)⟩
    · rw [verOf_top cc.hr hN hlt, EnvM.next_top]; exact Nat.le_refl _
    · rw [verOf_top cc.hr hN hlt, EnvM.next_m]
    · rw [verOf_top cc.hr hN hlt, EnvM.next_m] at hL
      injection hL with hL
      subst hL
      show _ = Value.slice (some ⟨W.heap.size, 0, none⟩) xs.length n
      rw [hxn]
  · -- closed
    have hgrow : Grow W (FzPlus F h E (if shares e = true then lent else [])) (W.alloc (.cells us et)) (fun b => FzPlus F h E (if shares e = true then lent else []) b ∨ b = W.heap.size) :=
      ⟨⟨rfl, rfl, rfl, by simp, fun b hb => al_old W _ b hb⟩, fun _ hb => .inl hb, fun b hb => Or.elim hb .inl fun e => .inr (by subst e; simp)⟩
    refine ⟨_, _, hk, OpOk.of hexec (OpPost.grow cc.hr cc.hF hgrow) (RdV.mk1 ⟨rfl, rfl, .inr ⟨W.heap.size, 0, n, by simp [hxn], .inr rfl, by omega, fun i hi => ?_⟩⟩ rfl)⟩
    have := ((Rd.lent (x2 i hi)).later hl1).later (Later.same fun b hb => Or.inl (b := b = W.heap.size) hb)
    refine Rd.congr e (fun q hq => ?_) this
    simp only [mem, Nat.zero_add]
    rw [cell_of_row _ W.heap.size _ us et (0, 0) (al_new W _)]
    simp

/-! ## closures -/

theorem fzPlus_cons {n : Nat} {ns : List Nat} : ∀ b, FzPlus F h E ns b → FzPlus F h E (n :: ns) b := fun b hb => Or.elim hb .inl fun ⟨m, hm, k⟩ => .inr ⟨m, List.mem_cons_of_mem _ hm, k⟩

theorem leaf_rd (hc : CallSound cx call) (hr : HR cx.P W F E N h) {t : Ty} {c : Cell} {x : El t} {ns : List Nat} (hp : leaf cx call h t c = some (x, ns)) {v : Value} (hv : RdCell cx.P W F E c v) :
    width t = 1 ∧ agg t = false ∧ Rd cx.P t x W (FzPlus F h E ns) (fun j => if j = 0 then some v else none) := by
  unfold leaf at hp
  split at hp
  · rename_i e n ver off
    split at hp
    case h_2 => cases hp
    rename_i ver' bt cs fr hn
    split at hp
    case isFalse => cases hp
    rename_i hver
    obtain ⟨rfl, rfl⟩ := hver
    simp only [Option.map_eq_some_iff] at hp
    obtain ⟨y, hy, hxy⟩ := hp
    injection hxy with h1 h2
    subst h1; subst h2
    obtain ⟨b, arr, T, k1, k2, k3, _⟩ := blk_box hr hn
    have hptr : v = .pointer (some ⟨b, 0, none⟩) := hv.2.2 _ k1
    obtain ⟨m1, m2⟩ := parseAll_rd hc hr hy k3
    refine ⟨rfl, rfl, b, 0, by simp [hptr], .inr ⟨n, by simp, ver, _, _, hn, k1, rfl⟩, ?_⟩
    refine Rd.congr e (fun q hq => ?_) (m1.later (Later.same fzPlus_cons))
    simp only [mem, Nat.zero_add]
    rw [cell_of_row W b _ arr T (0, 0) k2]
    simp
  · exact leaf0_rd hc hr hp hv

theorem capsK_rd (hc : CallSound cx call) (hr : HR cx.P W F E N h) (hρ : ∀ x, RdV cx.P W F E (ρ x) (a.eval x)) : ∀ (ops : List Operand) (t : Ty) (x : El t) (lent : List Nat), capsK cx call h (ops.map ρ) = some ⟨t, x, lent⟩ →
    RdArgs cx.P t x W (FzPlus F h E lent) (ops.map a.eval) := by
  intro ops
  induction ops with
  | nil =>
    intro t x lent hk
    simp only [List.map_nil, capsK, Option.some.injEq] at hk
    injection hk with h1 h2
    subst h1
    rfl
  | cons p ops ih =>
    intro t x lent hk
    simp only [List.map_cons] at hk ⊢
    have hp := hρ p
    unfold capsK at hk
    split at hk
    · rename_i hq; cases hq
    · rename_i c r hq
      injection hq with hq hr'
      subst hr'
      rw [hq] at hp
      obtain ⟨hcell, hone⟩ := hp.single
      split at hk
      · rename_i n ver off
        split at hk
        case h_2 => cases hk
        rename_i ver' bt cs fr hn
        split at hk
        case isFalse => cases hk
        simp only [Option.bind_eq_some_iff, Option.map_eq_some_iff] at hk
        obtain ⟨y, hy, z, hz, hyz⟩ := hk
        obtain ⟨tz, vz, lz⟩ := z
        cases hyz
        obtain ⟨k1, k2, k3⟩ := leaf_rd hc hr hy hcell
        refine ⟨a.eval p, _, rfl, ⟨(fun e => nomatch e), (fun _ => hone), by rw [oneCell_cells hone]; rfl⟩, ?_, (ih tz vz lz hz).later (Later.same FzPlus.right)⟩
        refine Rd.congr (.ptr bt) (fun q hq => ?_) (k3.later (Later.same FzPlus.left))
        simp only [width] at hq
        have : q = 0 := by omega
        subst this
        simp [one, oneCell_cells hone]
      · rename_i tt v off
        split at hk
        case isFalse => cases hk
        rename_i hoff
        subst hoff
        simp only [Option.map_eq_some_iff] at hk
        obtain ⟨z, hz, hyz⟩ := hk
        obtain ⟨tz, vz, lz⟩ := z
        cases hyz
        obtain ⟨b, o, hb, hF, hrd⟩ := hcell
        refine ⟨a.eval p, _, rfl, ⟨(fun e => nomatch e), (fun _ => hone), by rw [oneCell_cells hone]; rfl⟩, ⟨b, o, by rw [one, oneCell_cells hone, hb]; rfl, .inl hF, hrd.later (later_plus _)⟩, ih tz vz lz hz⟩
      · cases hk
    · cases hk

theorem op_makeFunc {o : Oper} {k : V → Ups → Option R} {r : R} {f : FuncId} {first caps : Array Operand} {t : Ty} {x : El t} {lent : List Nat} (cc : Ctx cx call W F E N h ρ a)
    (ho : o.op = .makeFunc (.func f) first caps) (h0 : Nat.beq first.size 0 = true) (hc : capsK cx call h (caps.toList.map ρ) = some ⟨t, x, lent⟩) (hk : k (.v false [.clo f t x]) (freezeUps h lent) = some r) :
    Sound cx W F E N h a o k r := by
  have e0 : first = #[] := Array.eq_empty_of_size_eq_zero (Nat.eq_of_beq_eq_true h0)
  subst e0
  have hrd := capsK_rd cc.hc cc.hr cc.ρ caps.toList t x lent hc
  refine ⟨_, _, hk, OpOk.of (v := .func (.func f) #[] (caps.map a.eval)) (by simp [execOp, ho, Instr.makeFunc]) (OpPost.grow cc.hr cc.hF (Grow.refl W _)) (RdV.mk1 ⟨_, rfl, ?_⟩ rfl)⟩
  simpa using hrd

end
end Go.Flat
