/-
  Soundness of the flat reading, seventh part: operations that make no memory.
-/
import Derived.Test.YtmooabafkcfbhaaFlatS6
namespace Go.Flat
open Go.RowKit (Below)

theorem lt_of_getElem? {α : Type} {l : Array α} {b : Nat} {x : α} (h : l[b]? = some x) : b < l.size := by
  rcases Nat.lt_or_ge b l.size with k | k
  · exact k
  · rw [Array.getElem?_eq_none k] at h; cases h

section
variable {P : Program} {W W' : World} {F F' : Fz} {E E' : EnvM} {h : Heap} {N : Nat → Prop}

theorem HR.lt (hr : HR P W F E N h) : ∀ b, liveAny h E b → b < W.heap.size := by
  rintro b ⟨n, ver, B, L, h1, h2, h3⟩
  obtain ⟨_, L', k1, k2⟩ := hr.blk n ver B h1
  rw [h2] at k1
  injection k1 with k1
  subst k1
  cases B with
  | box t cs fr =>
    obtain ⟨b', arr, T, rfl, m1, _⟩ := k2
    simp only [Loc.blk, Option.some.injEq] at h3
    subst h3
    exact lt_of_getElem? m1
  | arr e xs fr =>
    rcases k2 with ⟨rfl, _⟩ | ⟨b', cap, rfl, ⟨cs, T, m1, _⟩, _⟩
    · cases h3
    · simp only [Loc.blk, Option.some.injEq] at h3
      subst h3
      exact lt_of_getElem? m1
end

/-- what an operation is carried out over -/
structure Ctx (cx : Cx) (call : Oracle cx) (W : World) (F : Fz) (E : EnvM) (N : Nat → Prop) (h : Heap) (ρ : Operand → V) (a : Act) : Prop where
  hc : CallSound cx call
  tab : TabOk cx
  hr : HR cx.P W F E N h
  ρ : ∀ x, RdV cx.P W F E (ρ x) (a.eval x)
  hF : ∀ b, F b → b < W.heap.size

section
variable {cx : Cx} {call : Oracle cx} {fx : Hints} {W W' : World} {F F' : Fz} {E E' : EnvM} {h : Heap} {N : Nat → Prop} {ρ : Operand → V} {a : Act} {R : Type}

/-- what is asked of each operation -/
def Sound (cx : Cx) (W : World) (F : Fz) (E : EnvM) (N : Nat → Prop) (h : Heap) (a : Act) (o : Oper) (k : V → Ups → Option R) (r : R) : Prop :=
  ∃ x u, k x u = some r ∧ OpOk cx.P o a W F E N h x u

theorem Sound.value {o : Oper} {k : V → Ups → Option R} {r : R} {x : V} {v : Value} (c : Ctx cx call W F E N h ρ a) (hk : k x [] = some r)
    (hrun : (execOp a.eval o).run cx.P W = .ok (.value v) W) (hv : RdV cx.P W F E x v) : Sound cx W F E N h a o k r :=
  ⟨x, [], hk, OpOk.value c.hr hrun hv⟩

theorem op_move {o : Oper} {k : V → Ups → Option R} {r : R} {x : Operand} (c : Ctx cx call W F E N h ρ a) (ho : o.op = .move x ∨ o.op = .assign x) (hk : k (ρ x) [] = some r) :
    Sound cx W F E N h a o k r := by
  refine Sound.value c hk (v := a.eval x) ?_ (c.ρ x)
  rcases ho with ho | ho <;> simp [execOp, ho]

theorem op_pick {o : Oper} {k : V → Ups → Option R} {r : R} {z x y : Operand} {b : Bool} (c : Ctx cx call W F E N h ρ a) (ho : o.op = .pick z x y) (hz : ρ z = .v false [.val .bool b])
    (hk : (bif b then k (ρ x) [] else k (ρ y) []) = some r) : Sound cx W F E N h a o k r := by
  have hb := c.ρ z
  rw [hz] at hb
  have hb := rd_bool hb
  cases b with
  | true => exact Sound.value c hk (v := a.eval x) (by simp [execOp, ho, hb, asBool]) (c.ρ x)
  | false => exact Sound.value c hk (v := a.eval y) (by simp [execOp, ho, hb, asBool]) (c.ρ y)

/-! ### addresses -/

/-- where an address leads: cells in memory -/
def AddrAt (P : Program) (W : World) (F : Fz) (E : EnvM) (v : Value) (cs : List Cell) : Prop :=
  ∃ b o, ∃ vs : List Value, v = .pointer (some ⟨b, o, none⟩) ∧ RdCells P W F E cs vs ∧ ∀ j, j < vs.length → W.cell? ⟨b, o + j, none⟩ = vs[j]?

theorem cut_rd {P : Program} {cs : List Cell} {vs : List Value} {off w : Nat} {c : List Cell} (hc : cut cs off w = some c) (hv : RdCells P W F E cs vs) :
    off + w ≤ vs.length ∧ RdCells P W F E c ((vs.drop off).take w) ∧ c.length = w := by
  unfold cut at hc
  split at hc
  · rename_i hle
    injection hc with hc
    subst hc
    have := hv.1
    exact ⟨by omega, (hv.drop off).take w, by simp; omega⟩
  · cases hc

theorem blk_box {P : Program} (hr : HR P W F E N h) {n ver : Nat} {t : Ty} {cs : List Cell} {fr : Bool} (hn : h[n]? = some (ver, some (.box t cs fr))) :
    ∃ b arr T, E.m n ver = some (.box b) ∧ W.heap[b]? = some (.cells arr T (0, 0)) ∧ RdCells P W F E cs arr.toList ∧ cs.length = width t ∧ (fr = false → ¬ F b) ∧ (fr = true → F b) := by
  obtain ⟨_, L, hL, b, arr, T, rfl, k1, k2, k3, k4, k5⟩ := hr.blk n ver _ hn
  exact ⟨b, arr, T, hL, k1, k2, k3, k4, k5⟩

theorem blk_arr {P : Program} (hr : HR P W F E N h) {n ver : Nat} {e : Ty} {xs : List (El e)} {fr : Bool} (hn : h[n]? = some (ver, some (.arr e xs fr))) :
    (E.m n ver = some .nil ∧ xs = []) ∨ ∃ b cap, E.m n ver = some (.arr b (width e) xs.length cap) ∧ ArrAt P W F b cap e xs ∧ (fr = false → ¬ F b) ∧ (fr = true → F b) := by
  obtain ⟨_, L, hL, k⟩ := hr.blk n ver _ hn
  rcases k with ⟨rfl, k⟩ | ⟨b, cap, rfl, k⟩
  · exact .inl ⟨hL, k⟩
  · exact .inr ⟨b, cap, hL, k⟩

theorem loadK_rd {w : Nat} {c : Cell} {k : List Cell → Option R} {r : R} (hr : HR cx.P W F E N h) (hk : loadK h w c k = some r) {v : Value} (hv : RdCell cx.P W F E c v) :
    ∃ cs, k cs = some r ∧ cs.length = w ∧ AddrAt cx.P W F E v cs := by
  unfold loadK at hk
  split at hk
  · -- a box of one's own
    rename_i n ver off
    split at hk
    case h_2 => cases hk
    rename_i ver' t cs fr hn
    split at hk
    case isFalse => cases hk
    rename_i e
    subst e
    split at hk
    case h_2 => cases hk
    rename_i c hcut
    obtain ⟨b, arr, T, k1, k2, k3, _⟩ := blk_box hr hn
    have hp : v = .pointer (some ⟨b, off, none⟩) := hv.2.2 _ k1
    obtain ⟨m1, m2, m3⟩ := cut_rd hcut k3
    refine ⟨c, hk, m3, b, off, _, hp, m2, fun j hj => ?_⟩
    simp at hj
    rw [cell_of_row W b _ arr T (0, 0) k2, List.getElem?_take]
    simp [show j < w by omega]
  · -- closed memory
    rename_i t x off
    split at hk
    case h_2 => cases hk
    rename_i c hcut
    obtain ⟨b, o, rfl, k1, k2⟩ := hv
    obtain ⟨vs, m1, m2, m3⟩ := cells_rd (E := E) t x _ k2
    obtain ⟨n1, n2, n3⟩ := cut_rd hcut m3
    refine ⟨c, hk, n3, b, o + off, _, rfl, n2, fun j hj => ?_⟩
    simp at hj
    have := m2 (off + j) (by omega)
    simp only [mem] at this
    rw [Nat.add_assoc, this, List.getElem?_take]
    simp [show j < w by omega]
  · -- an element of an array of one's own
    rename_i n ver i off
    split at hk
    case h_2 => cases hk
    rename_i ver' e xs fr hn
    split at hk
    case isFalse => cases hk
    rename_i e'
    subst e'
    cases hx : xs[i]? with
    | none => rw [hx] at hk; cases hk
    | some y =>
      rw [hx] at hk
      simp only [Option.bind_some] at hk
      split at hk
      case h_2 => cases hk
      rename_i c hcut
      have hi : i < xs.length := by
        rcases Nat.lt_or_ge i xs.length with q | q
        · exact q
        · rw [List.getElem?_eq_none q] at hx; cases hx
      have hy : xs[i] = y := by rw [List.getElem?_eq_getElem hi] at hx; injection hx
      rcases blk_arr hr hn with ⟨_, rfl⟩ | ⟨b, cap, k1, ⟨cs, T, q1, q2, q3, q4, q5, q6⟩, _⟩
      · simp at hi
      · have hp : v = .pointer (some ⟨b, i * width e + off, none⟩) := hv.2.2 _ k1
        obtain ⟨vs, m1, m2, m3⟩ := cells_rd (E := E) e y _ (hy ▸ q6 i hi)
        obtain ⟨n1, n2, n3⟩ := cut_rd hcut m3
        refine ⟨c, hk, n3, b, _, _, hp, n2, fun j hj => ?_⟩
        simp at hj
        have := m2 (off + j) (by omega)
        rw [cell_of_row W b _ cs T (0, 0) q1, Nat.add_assoc, this, List.getElem?_take]
        simp [show j < w by omega]
  · cases hk

structure TyOf (cx : Cx) (t : TypeId) (c : Ty) : Prop where
  ti : ∃ ti, cx.P.info? t = some ti ∧ ti.size = width c ∧ (∃ z, ti.zero = some z ∧ eqLits z.cells.toList (zeroCells c) = true ∧ (agg c = true ↔ ∃ l, z = .agg l))
  ag : agg c = aggB cx.P t
  w : cx.cells t = width c
  one : agg c = false → width c = 1
  und : ∃ d, cx.P.underlying t = some d

theorem ty_of {t : TypeId} {c : Ty} (ht : TabOk cx) (h : cx.ty t = some c) : TyOf cx t c := by
  unfold Cx.ty at h
  split at h
  case h_2 => cases h
  rename_i i hi
  obtain ⟨⟨ti, h1, h2, h3, h4⟩, h5, h6⟩ := ht t i hi
  obtain ⟨k1, k2, k3, k4⟩ := h5 c h
  exact ⟨⟨ti, h1, h2.trans k1.symm, h4 c h⟩, k2, by unfold Cx.cells; rw [hi]; exact k1.symm, k3, k4⟩

theorem RdCells.mkV {P : Program} {cs : List Cell} {vs : List Value} {ag : Bool} (hv : RdCells P W F E cs vs) (h1 : ag = false → cs.length = 1) :
    RdV P W F E (.v ag cs) (if ag = true then .agg vs.toArray else vs.headD .nilFunc) := by
  cases ag with
  | true => exact ⟨by simpa [Value.cells] using hv, fun _ => ⟨_, rfl⟩, fun e => by cases e⟩
  | false =>
    obtain ⟨c, rfl⟩ := List.length_eq_one_iff.1 (h1 rfl)
    obtain ⟨v, r, rfl, k1, k2, _⟩ := hv.uncons
    exact RdV.mk1 k1 k2

theorem op_load {o : Oper} {k : V → Ups → Option R} {r : R} {t : TypeId} {x : Operand} {c : Ty} {d : Cell} (cc : Ctx cx call W F E N h ρ a) (ho : o.op = .load t x)
    (hc : cx.ty t = some c) (hx : ρ x = .v false [d]) (hk : loadK h (width c) d (fun cs => k (.v (agg c) cs) []) = some r) : Sound cx W F E N h a o k r := by
  have hv := cc.ρ x
  rw [hx] at hv
  obtain ⟨cs, k1, k2, b, o', vs, k3, k4, k5⟩ := loadK_rd cc.hr hk hv.single.1
  obtain ⟨⟨ti, t1, t2, _⟩, t3, t4, t5, t6⟩ := ty_of cc.tab hc
  have hl : vs.length = ti.size := by rw [← k4.1, k2, t2]
  have hrun := run_loadVar_cells (P := cx.P) (W := W) (b := b) (o := o') t1 t6 hl k5 (fun e => by rw [hl, t2]; exact t5 (t3.trans e))
  refine Sound.value cc k1 (v := _) ?_ (k4.mkV (fun e => by rw [k2]; exact t5 e))
  rw [t3]
  simp [execOp, ho, Instr.loadAt, k3, Instr.sureAddr, hrun]


/-! ### nil, arithmetic -/

theorem notNil_rd {P : Program} {c : Cell} {v : Value} (hn : isNil c = some false) (hv : RdCell P W F E c v) : (∃ p, v = .pointer (some p)) ∨ (∃ f caps, v = .func (.func f) #[] caps) := by
  unfold isNil at hn
  split at hn <;> (try (cases hn))
  · obtain ⟨b, o, rfl, _⟩ := hv; exact .inl ⟨_, rfl⟩
  · obtain ⟨_, ⟨L, hL⟩, h2⟩ := hv
    have := h2 L hL
    cases L <;> simp [RdLoc] at this
    exact .inl ⟨_, this⟩
  · obtain ⟨_, ⟨L, hL⟩, h2⟩ := hv
    have := h2 L hL
    cases L <;> simp [RdLoc] at this
    exact .inl ⟨_, this⟩
  · obtain ⟨caps, rfl, _⟩ := hv; exact .inr ⟨_, _, rfl⟩
  · obtain ⟨_, _, f, caps, h1, _⟩ := hv
    simp at h1
    exact .inr ⟨f, caps, h1⟩

theorem op_nilCheck {o : Oper} {k : V → Ups → Option R} {r : R} {x : Operand} {c : Cell} (cc : Ctx cx call W F E N h ρ a) (ho : o.op = .nilCheck x)
    (hx : ρ x = .v false [c]) (hn : isNil c = some false) (hk : k (.v false [c]) [] = some r) : Sound cx W F E N h a o k r := by
  have hv := cc.ρ x
  rw [hx] at hv
  refine Sound.value cc hk (v := a.eval x) ?_ hv
  rcases notNil_rd hn hv.single.1 with ⟨p, hp⟩ | ⟨f, caps, hp⟩ <;> simp [execOp, ho, hp]

theorem eqGuard_other {op : BinOp} {t : TypeId} {x y : Operand} {u v : Value} (h1 : ∀ l m, u = .agg l → v = .agg m → False) (h2 : u = .nilIface → v = .nilIface → False) :
    (eqGuard op t x y u v).run cx.P W = .ok () W := by
  unfold eqGuard
  cases op <;> simp <;> (cases u <;> simp <;> cases v <;> simp_all)

theorem run_binOp {op : BinOp} {t yt : TypeId} {x y : Operand} {o : Oper} {u v w : Value} (ho : o.op = .binOp op t x y yt) (hu : a.eval x = u) (hv : a.eval y = v)
    (hg : (eqGuard op t x y u v).run cx.P W = .ok () W) (hb : (binOp op t u v).run cx.P W = .ok w W) : (execOp a.eval o).run cx.P W = .ok (.value w) W := by
  simp [execOp, ho, hu, hv, hg, hb]

theorem intBeq (x y : Int) : (x == y) = decide (x = y) := by rw [Bool.eq_iff_iff]; simp

theorem binI_rd {op : BinOp} {kd kd' : IntKind} {x y : Int} {kk : Cell → Option R} {r : R} {t : TypeId} (hk : binI op kd x y kk = some r) (hkd : kd = kd' ∨ isShift op = true) :
    ∃ c w, kk c = some r ∧ (binOp op t (.int kd x) (.int kd' y)).run cx.P W = .ok w W ∧ RdV cx.P W F E (.v false [c]) w := by
  have same : isShift op = false → kd = kd' := fun e => hkd.resolve_right (by simp [e])
  cases op with
  | add => cases same rfl; exact ⟨_, _, hk, by simp [binOp, Op.intArith], mk_int _ _⟩
  | sub => cases same rfl; exact ⟨_, _, hk, by simp [binOp, Op.intArith], mk_int _ _⟩
  | mul => cases same rfl; exact ⟨_, _, hk, by simp [binOp, Op.intArith], mk_int _ _⟩
  | quo =>
    cases same rfl
    simp only [binI] at hk
    cases hd : decide (y = 0) with
    | true => rw [hd] at hk; cases hk
    | false =>
      rw [hd] at hk
      have hy : y ≠ 0 := by simpa using hd
      exact ⟨_, _, hk, by simp [binOp, Op.intDiv, hy], mk_int _ _⟩
  | rem =>
    cases same rfl
    simp only [binI] at hk
    cases hd : decide (y = 0) with
    | true => rw [hd] at hk; cases hk
    | false =>
      rw [hd] at hk
      have hy : y ≠ 0 := by simpa using hd
      exact ⟨_, _, hk, by simp [binOp, Op.intDiv, hy], mk_int _ _⟩
  | and => cases same rfl; exact ⟨_, _, hk, by simp [binOp, Op.intBits, andI], mk_int _ _⟩
  | or => cases same rfl; exact ⟨_, _, hk, by simp [binOp, Op.intBits, orI], mk_int _ _⟩
  | xor => cases same rfl; exact ⟨_, _, hk, by simp [binOp, Op.intBits, xorI], mk_int _ _⟩
  | andNot => cases same rfl; exact ⟨_, _, hk, by simp [binOp, Op.intBits, andNotI], mk_int _ _⟩
  | shl =>
    simp only [binI] at hk
    cases hd : decide (y < 0) with
    | true => rw [hd] at hk; cases hk
    | false =>
      rw [hd] at hk
      have hy : ¬ y < 0 := by simpa using hd
      exact ⟨_, _, hk, by simp [binOp, Op.shift, hy, shlI], mk_int _ _⟩
  | shr =>
    simp only [binI] at hk
    cases hd : decide (y < 0) with
    | true => rw [hd] at hk; cases hk
    | false =>
      rw [hd] at hk
      have hy : ¬ y < 0 := by simpa using hd
      exact ⟨_, _, hk, by simp [binOp, Op.shift, hy, shrI], mk_int _ _⟩
  | eql => cases same rfl; exact ⟨_, _, hk, by simp [binOp, Op.intCmp, intBeq], mk_bool _⟩
  | neq => cases same rfl; exact ⟨_, _, hk, by simp [binOp, Op.intCmp, bne, intBeq], mk_bool _⟩
  | lss => cases same rfl; exact ⟨_, _, hk, by simp [binOp, Op.intCmp], mk_bool _⟩
  | leq => cases same rfl; exact ⟨_, _, hk, by simp [binOp, Op.intCmp], mk_bool _⟩
  | gtr => cases same rfl; exact ⟨_, _, hk, by simp [binOp, Op.intCmp], mk_bool _⟩
  | geq => cases same rfl; exact ⟨_, _, hk, by simp [binOp, Op.intCmp], mk_bool _⟩


theorem toList_mk (s : List UInt8) : (⟨s.toArray⟩ : ByteArray).toList = s := by
  rw [ByteArray.toList_eq]


theorem size_mk (s : List UInt8) : (⟨s.toArray⟩ : ByteArray).size = s.length := by simp [ByteArray.size]
theorem append_mk (s t : List UInt8) : (⟨s.toArray⟩ : ByteArray) ++ ⟨t.toArray⟩ = ⟨(s ++ t).toArray⟩ := by
  apply ByteArray.ext
  simp

theorem binS_rd {op : BinOp} {x y : List UInt8} {kk : Cell → Option R} {r : R} {t : TypeId} (hk : binS op x y kk = some r) :
    ∃ c w, kk c = some r ∧ (binOp op t (.string ⟨x.toArray⟩) (.string ⟨y.toArray⟩)).run cx.P W = .ok w W ∧ RdV cx.P W F E (.v false [c]) w := by
  cases op with
  | add =>
    simp only [binS] at hk
    cases hd : decide (x.length + y.length ≤ 9223372036854775807) with
    | false => rw [hd] at hk; cases hk
    | true =>
      rw [hd] at hk
      have hle : x.length + y.length ≤ 9223372036854775807 := by simpa using hd
      refine ⟨_, _, hk, ?_, mk_str _⟩
      have hm : IntKind.i64.max = 9223372036854775807 := by decide
      have hn : ¬ (((x.length + y.length : Nat) : Int) > IntKind.i64.max) := by rw [hm]; omega
      simp only [binOp, Op.stringOp, size_mk, hn, if_false, append_mk]
      rfl
  | eql => exact ⟨_, _, hk, by simp [binOp, Op.stringOp], mk_bool _⟩
  | neq => exact ⟨_, _, hk, by simp [binOp, Op.stringOp], mk_bool _⟩
  | lss => exact ⟨_, _, hk, by simp [binOp, Op.stringOp], mk_bool _⟩
  | leq => exact ⟨_, _, hk, by simp [binOp, Op.stringOp], mk_bool _⟩
  | gtr => exact ⟨_, _, hk, by simp [binOp, Op.stringOp], mk_bool _⟩
  | geq => exact ⟨_, _, hk, by simp [binOp, Op.stringOp], mk_bool _⟩
  | _ => cases hk

theorem op_unOp {o : Oper} {k : V → Ups → Option R} {r : R} {op : UnOp} {t : TypeId} {x : Operand} (cc : Ctx cx call W F E N h ρ a) (ho : o.op = .unOp op t x)
    (hk : unK op (ρ x) (fun c => k (.v false [c]) []) = some r) : Sound cx W F E N h a o k r := by
  have hv := cc.ρ x
  unfold unK at hk
  split at hk
  · rename_i b hx
    rw [hx] at hv
    have := rd_bool hv
    exact Sound.value cc hk (v := .bool !b) (by simp [execOp, ho, this, Op.unary]) (mk_bool _)
  · rename_i kd n hx
    rw [hx] at hv
    have := rd_int hv
    exact Sound.value cc hk (v := .int kd (kd.wrap (0 - n))) (by simp [execOp, ho, this, Op.unary, Op.intArith]) (mk_int _ _)
  · rename_i kd n hx
    rw [hx] at hv
    have := rd_int hv
    exact Sound.value cc hk (v := .int kd (xorI kd (if kd.signed then -1 else kd.max) n)) (by simp [execOp, ho, this, Op.unary, Op.intBits, xorI]) (mk_int _ _)
  · cases hk

/-! ### fields, elements -/

theorem shp_of {t : TypeId} (ht : TabOk cx) {s : Shp} (h : cx.shp t = s) (hne : s ≠ .other) : shpB cx.P t s = true := by
  unfold Cx.shp at h
  split at h
  · rename_i i hi
    have := (ht t i hi).shp
    rw [h] at this
    exact this
  · exact absurd h.symm hne

theorem shp_slice {t e : TypeId} (ht : TabOk cx) (h : cx.shp t = .slice e) : cx.P.underlying t = some (.slice e) := by
  have := shp_of ht h (by simp)
  unfold shpB at this
  split at this <;> simp_all
theorem shp_arr {t e : TypeId} {n : Nat} (ht : TabOk cx) (h : cx.shp t = .arr n e) : cx.P.underlying t = some (.array n e) := by
  have := shp_of ht h (by simp)
  unfold shpB at this
  split at this <;> simp_all
theorem shp_str {t : TypeId} (ht : TabOk cx) (h : cx.shp t = .str) : cx.P.underlying t = some .string := by
  have := shp_of ht h (by simp)
  unfold shpB at this
  split at this <;> simp_all
theorem shp_int {t : TypeId} {k : IntKind} (ht : TabOk cx) (h : cx.shp t = .int k) : cx.P.underlying t = some (.int k) := by
  have := shp_of ht h (by simp)
  unfold shpB at this
  split at this <;> simp_all
theorem fieldsB_get : ∀ {fs : List Field} {l : List (Nat × Nat)}, fieldsB fs l = true → ∀ (k : Nat) off ft, l[k]? = some (off, ft) → ∃ f : Field, fs[k]? = some f ∧ f.offset = off ∧ f.type = ft := by
  intro fs
  induction fs with
  | nil => intro l h k off ft hk; cases l with
    | nil => simp at hk
    | cons => cases h
  | cons f fs ih =>
    intro l h k off ft hk
    cases l with
    | nil => cases h
    | cons x xs =>
      simp only [fieldsB, Bool.and_eq_true] at h
      obtain ⟨h1, h2, h3⟩ := h
      cases k with
      | zero =>
        simp at hk
        subst hk
        exact ⟨f, rfl, Nat.eq_of_beq_eq_true h1, Nat.eq_of_beq_eq_true h2⟩
      | succ k =>
        obtain ⟨g, k1, k2⟩ := ih h3 k off ft (by simpa using hk)
        exact ⟨g, by simpa using k1, k2⟩
theorem shp_struct {t : TypeId} {l : List (Nat × Nat)} (ht : TabOk cx) (h : cx.shp t = .struct l) : ∃ fs, cx.P.underlying t = some (.struct fs) ∧ fieldsB fs.toList l = true := by
  have := shp_of ht h (by simp)
  unfold shpB at this
  split at this <;> simp_all

theorem field_of {s f : Nat} {off ft : Nat} (ht : TabOk cx) (h : fieldOff cx s f = some (off, ft)) :
    ∃ fs g, cx.P.underlying s = some (.struct fs) ∧ fs[f]? = some g ∧ g.offset = off ∧ g.type = ft := by
  unfold fieldOff at h
  split at h
  case h_2 => cases h
  rename_i l hl
  obtain ⟨fs, h1, h2⟩ := shp_struct ht hl
  obtain ⟨g, k1, k2, k3⟩ := fieldsB_get h2 f off ft h
  exact ⟨fs, g, h1, by simpa using k1, k2, k3⟩

theorem cells_of {t : TypeId} (ht : TabOk cx) (h : Nat.beq (cx.cells t) 0 = false) : ∃ ti, cx.P.info? t = some ti ∧ ti.size = cx.cells t ∧ ti.size ≠ 0 := by
  unfold Cx.cells at h ⊢
  split at h
  · rename_i i hi
    obtain ⟨⟨ti, h1, h2, _⟩, _⟩ := ht t i hi
    exact ⟨ti, h1, h2, fun e => by rw [h2] at e; rw [e] at h; cases h⟩
  · cases h

end
end Go.Flat
