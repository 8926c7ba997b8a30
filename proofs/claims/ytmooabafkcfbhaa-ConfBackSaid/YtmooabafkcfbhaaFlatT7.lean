/-
  Soundness of the flat reading, sixteenth part: new rows.
-/
import Derived.Test.YtmooabafkcfbhaaFlatT6
import Derived.Laws.MakeOwn
namespace Go.Flat
open Go.RowKit (Below)

section
variable {cx : Cx} {call : Oracle cx} {fx : Hints} {W W' : World} {F F' : Fz} {E E' : EnvM} {h : Heap} {N : Nat → Prop} {ρ : Operand → V} {a : Act} {R : Type}

theorem RdCells.get0 {P : Program} {c : Cell} {vs : List Value} (hv : RdCells P W F E [c] vs) : ∃ v, vs[0]? = some v ∧ RdCell P W F E c v := by
  obtain ⟨v, r, rfl, h1, _, _⟩ := hv.uncons
  exact ⟨v, rfl, h1⟩

/-- the zero value, read of its cells -/
theorem zeroEl_rd {P : Program} : ∀ (e : Ty) (z : El e) (vs : List Value), zeroEl e = some z → RdCells P W F E (zeroCells e) vs → Rd P e z W F (fun j => vs[j]?) := by
  intro e
  induction e with
  | unit => intro z vs _ _; trivial
  | pair a b iha ihb =>
    intro z vs hz hv
    simp only [zeroEl, Option.bind_eq_some_iff, Option.map_eq_some_iff] at hz
    obtain ⟨x, hx, y, hy, rfl⟩ := hz
    have h1 := hv.take (width a)
    have h2 := hv.drop (width a)
    simp only [zeroCells] at h1 h2
    rw [List.take_left' (zero_length a)] at h1
    rw [List.drop_left' (zero_length a)] at h2
    refine ⟨Rd.congr a ?_ (iha x _ hx h1), Rd.congr b ?_ (ihb y _ hy h2)⟩
    · intro j hj; rw [List.getElem?_take, if_pos hj]
    · intro j _; rw [List.getElem?_drop]
  | wrap e ih => intro z vs hz hv; exact ih z vs hz hv
  | bool =>
    intro z vs hz hv
    simp only [zeroEl, Option.some.injEq] at hz
    subst hz
    obtain ⟨v, h1, h2⟩ := RdCells.get0 hv
    have := h2.2.2
    simp only [Rd, RdP] at this ⊢
    rw [h1]; simpa using this
  | int k =>
    intro z vs hz hv
    simp only [zeroEl, Option.some.injEq] at hz
    subst hz
    obtain ⟨v, h1, h2⟩ := RdCells.get0 hv
    have := h2.2.2
    simp only [Rd, RdP] at this ⊢
    rw [h1]; simpa using this
  | str =>
    intro z vs hz hv
    simp only [zeroEl, Option.some.injEq] at hz
    subst hz
    obtain ⟨v, h1, h2⟩ := RdCells.get0 hv
    have := h2.2.2
    simp only [Rd, RdP] at this ⊢
    rw [h1]; simpa using this
  | slice e _ =>
    intro z vs hz hv
    simp only [zeroEl, Option.some.injEq] at hz
    subst hz
    obtain ⟨v, h1, p, h2⟩ := RdCells.get0 hv
    exact .inl ⟨rfl, p, by show vs[0]? = _; rw [h1, h2]⟩
  | ptr e _ => intro z vs hz; cases hz
  | fn a r _ _ => intro z vs hz; cases hz
  | own e _ => intro z vs hz; cases hz
  | ref e _ => intro z vs hz; cases hz
  | opt e _ => intro z vs hz; cases hz

theorem RdCells.one_all {P : Program} {cs : List Cell} {vs : List Value} (hv : RdCells P W F E cs vs) : ∀ u ∈ vs, u.oneCell' = true := by
  intro u hu
  obtain ⟨j, hj, e⟩ := List.mem_iff_getElem.1 hu
  have hj2 : j < cs.length := by rw [hv.1]; exact hj
  exact (hv.2 j _ u (List.getElem?_eq_getElem hj2) (by rw [List.getElem?_eq_getElem hj, e])).2

theorem made_get {z : Array Value} {n q : Nat} (hq : q < n) : (madeCells z n)[q]? = some z[q % z.size]! := by
  simp [madeCells, hq]

theorem made_one {z : Array Value} {n : Nat} (hz : ∀ u ∈ z.toList, u.oneCell' = true) (hpos : 0 < z.size) : ∀ u ∈ (madeCells z n).toList, u.oneCell' = true := by
  intro u hu
  simp only [madeCells, Array.toList_map, List.mem_map] at hu
  obtain ⟨q, _, rfl⟩ := hu
  have hlt : q % z.size < z.size := Nat.mod_lt _ hpos
  rw [getElem!_pos z _ hlt]
  exact hz _ (by simp)

/-- a row of zeros, read -/
theorem made_arr {P : Program} {W : World} {F : Fz} {e : Ty} {x : El e} {z : Array Value} {n i : Nat} (hz : z.size = width e) (hx : Rd P e x W F (fun j => z.toList[j]?)) (hi : i < n) :
    Rd P e x W F (fun j => (madeCells z (n * width e))[i * width e + j]?) := by
  refine Rd.congr e (fun q hq => ?_) hx
  have hlt : i * width e + q < n * width e := by
    have : i * width e + width e ≤ n * width e := by rw [← Nat.succ_mul]; exact Nat.mul_le_mul_right _ hi
    omega
  rw [made_get hlt, hz]
  have : (i * width e + q) % width e = q := by rw [Nat.mul_comm, Nat.mul_add_mod, Nat.mod_eq_of_lt hq]
  rw [this, getElem!_pos z q (by omega)]
  simp [hz, hq]

theorem op_makeSlice {o : Oper} {k : V → Ups → Option R} {r : R} {t et : TypeId} {l c : Operand} {e : Ty} {n m : Int} {z : El e} (cc : Ctx cx call W F E N h ρ a) (hK : KOk N h k) (ho : o.op = .makeSlice t l c)
    (hs : cx.shp t = .slice et) (he : cx.ty et = some e) (hl : intOf1 (ρ l) = some n) (hm : intOf1 (ρ c) = some m) (hz : zeroEl e = some z) (hw : (sameW cx et e && Nat.blt 0 (cx.bytes et)) = true)
    (hk : must (decide (0 ≤ n) && (decide (n ≤ m) && decide (m * (cx.bytes et : Int) ≤ 140737488355328)))
            (k (.v false [.lall (nmOf fx o) (verOf h (nmOf fx o) + 1)]) [(nmOf fx o, verOf h (nmOf fx o) + 1, some (.arr e (List.replicate n.toNat z) false))]) = some r) : Sound cx W F E N h a o k r := by
  obtain ⟨h1, hk⟩ := must_some hk
  simp only [Bool.and_eq_true, decide_eq_true_eq] at h1 hw
  obtain ⟨h1, h2, h3⟩ := h1
  obtain ⟨hN, hlt⟩ := hK _ _ _ hk (nmOf fx o) (by simp [upNames])
  obtain ⟨ti, t1, t2, z', t3, t4, t5⟩ := (ty_of cc.tab he).ti
  obtain ⟨ti', t1', t2'⟩ := sameW_of cc.tab hw.1
  have hbytes : ti.bytes = cx.bytes et := by
    unfold Cx.bytes
    cases hi : cx.info et with
    | none => simp [Cx.ty, hi] at he
    | some i =>
      obtain ⟨tj, j1, _, j2, _⟩ := (cc.tab et i hi).info
      rw [t1] at j1
      injection j1 with j1
      subst j1
      exact j2
  have hb0 : 0 < cx.bytes et := by simpa [Nat.blt_eq] using hw.2
  have hwpos : 0 < width e := by
    have := hw.1
    unfold sameW at this
    simp only [Bool.and_eq_true, Bool.not_eq_true'] at this
    rcases Nat.eq_zero_or_pos (width e) with q | q
    · rw [q] at this; exact absurd this.2 (by decide)
    · exact q
  have hm0 : 0 ≤ m := by omega
  have hmb : m ≤ m * (cx.bytes et : Int) := by
    have := Int.mul_le_mul_of_nonneg_left (show (1 : Int) ≤ (cx.bytes et : Int) by omega) hm0
    simpa using this
  obtain ⟨kl, hl'⟩ := intOf1_rd hl (cc.ρ l)
  obtain ⟨kc, hc'⟩ := intOf1_rd hm (cc.ρ c)
  have hrun := run_make (P := cx.P) W t et ti z' (shp_slice cc.tab hs) t1 t3 kl kc n m h1 h2 (by rw [hbytes, Int.mul_comm]; omega) (by omega)
  rw [t2] at hrun
  have hzc : RdCells cx.P W F E (zeroCells e) z'.cells.toList := eqLits_rd t4
  have hzsz : z'.cells.size = width e := by have := hzc.1; rw [zero_length] at this; simpa using this.symm
  have hlen : (List.replicate n.toNat z).length = n.toNat := List.length_replicate
  have hpost := OpPost.new (T := et) (cs := madeCells z'.cells (m.toNat * width e)) (W0 := W) (ns := []) (L := .arr W.heap.size (width e) (List.replicate n.toNat z).length m.toNat) (B := .arr e (List.replicate n.toNat z) false) cc.hr cc.hF hN hlt ⟨rfl, rfl, rfl, Nat.le_refl _, fun _ _ _ => rfl⟩ rfl rfl
    (by
      rw [fzPlus_nil]
      refine .inr ⟨W.heap.size, m.toNat, rfl, ⟨_, et, al_new W _, size_madeCells _ _, by rw [hlen]; omega, by simp only [maxLen]; omega, made_one (RdCells.one_all hzc) (by omega), fun i hi => ?_⟩, fun _ hf => ?_, fun e => by cases e⟩
      · rw [hlen] at hi
        rw [List.getElem_replicate]
        have hl : Later W F (W.alloc (.cells (madeCells z'.cells (m.toNat * width e)) et)) F := ⟨rfl, rfl, rfl, by simp, fun b hb => al_old W _ b (cc.hF b hb), fun _ hb => hb⟩
        exact made_arr hzsz ((zeroEl_rd e z _ hz hzc).later hl) (by omega)
      · have := cc.hF _ hf; omega)
  refine ⟨_, _, hk, OpOk.of (v := .slice (some ⟨W.heap.size, 0, none⟩) n.toNat m.toNat) ?_ hpost (RdV.mk1 ⟨?_, ⟨.arr W.heap.size (width e) (List.replicate n.toNat z).length m.toNat, ?_⟩, fun L hL => ?_⟩ rfl)⟩
  · simp [execOp, ho, hl', hc', hrun]
  · rw [verOf_top cc.hr hN hlt, EnvM.next_top]; exact Nat.le_refl _
  · rw [verOf_top cc.hr hN hlt, EnvM.next_m]
  · rw [verOf_top cc.hr hN hlt, EnvM.next_m] at hL
    injection hL with hL
    subst hL
    show _ = Value.slice (some ⟨W.heap.size, 0, none⟩) (List.replicate n.toNat z).length m.toNat
    rw [hlen]

/-- what is lent is frozen, and memory grows -/
theorem OpPost.grow {P : Program} {ns : List Nat} (hr : HR P W F E N h) (hF : ∀ b, F b → b < W.heap.size) (hg : Grow W (FzPlus F h E ns) W' F') : OpPost P W F E N h W' F' E (freezeUps h ns) := by
  obtain ⟨hr1, hfz⟩ := HR.freeze ns hr (Frozer.refl h)
  have hlt : ∀ b, FzPlus F h E ns b → b < W.heap.size := fun b hb => FzPlus.lt hr hF hb
  refine ⟨hr1.grow hg hlt (fun b ⟨m, hm⟩ => hr.lt b ⟨m, (hfz.atName m b).1 hm⟩), (later_plus ns).trans (hg.later hlt), EnvLe.refl E, fun b hb _ => hg.below.block b hb, fun b hb => ?_, fun m b hm hat => ?_, fun _ _ => rfl⟩
  · rcases hg.new b hb with (k | ⟨m, hm, k⟩) | k
    · exact .inl k
    · exact .inr (.inl ⟨m, mem_freeze hm k, k⟩)
    · exact .inr (.inr k)
  · exact .inl ⟨m, hm, (hfz.atName m b).1 hat⟩

/-! ## slices that are built -/

/-- cells in rows of one width against an array -/
def RdRows (P : Program) (W : World) (F : Fz) (E : EnvM) (w : Nat) (ls : List (List Cell)) (vs : Array Value) : Prop :=
  vs.size = ls.length * w ∧ (∀ u ∈ vs.toList, u.oneCell' = true) ∧ ∀ i c, ls[i]? = some c → RdCells P W F E c ((vs.toList.drop (i * w)).take w)

theorem row_lt {w n i j : Nat} (hi : i < n) (hj : j < w) : i * w + j < n * w := by
  have : i * w + w ≤ n * w := by rw [← Nat.succ_mul]; exact Nat.mul_le_mul_right _ hi
  omega

theorem partsAt_rd {P : Program} (w : Nat) : ∀ (ps : List (Nat × Operand)) (ls : List (List Cell)) (vs : Array Value) (ls' : List (List Cell)), (∀ x, RdV P W F E (ρ x) (a.eval x)) →
    partsAt w ls (ps.map fun x => (x.1, ρ x.2)) = some ls' → RdRows P W F E w ls vs →
    ∃ us, Instr.fill (fun i => some (i * w, w)) vs (ps.map fun x => (x.1, a.eval x.2)) = some us ∧ RdRows P W F E w ls' us ∧ ls'.length = ls.length := by
  intro ps
  induction ps with
  | nil =>
    intro ls vs ls' _ hb hv
    simp [partsAt] at hb
    subst hb
    exact ⟨vs, rfl, hv, rfl⟩
  | cons x ps ih =>
    intro ls vs ls' hρ hb hv
    obtain ⟨i, x⟩ := x
    simp only [List.map_cons] at hb ⊢
    have hx := hρ x
    cases hq : ρ x with
    | tup l => rw [hq] at hb; simp [partsAt] at hb
    | undef => rw [hq] at hb; simp [partsAt] at hb
    | lost => rw [hq] at hb; simp [partsAt] at hb
    | v ag new =>
      rw [hq] at hb hx
      unfold partsAt at hb
      split at hb
      case isFalse => cases hb
      rename_i hw
      obtain ⟨hw, hi⟩ := hw
      have hl1 : (a.eval x).cells.size = w := by have := hx.1.1; simp at this; omega
      have hin : i * w + w ≤ vs.size := by rw [hv.1, ← Nat.succ_mul]; exact Nat.mul_le_mul_right _ hi
      have hle : i * w + (a.eval x).cells.toList.length ≤ vs.size := by simp [hl1]; exact hin
      obtain ⟨us, h1, h2, h3⟩ := ih (ls.set i new) (putVals vs (i * w) (a.eval x).cells.toList) ls' hρ hb (by
        refine ⟨by rw [size_put hle, List.length_set]; exact hv.1, one_put hv.2.1 (RdCells.one_all hx.1), fun j c hj => ?_⟩
        rw [List.getElem?_set] at hj
        by_cases e : i = j
        · subst e
          rw [if_pos rfl, if_pos hi] at hj
          injection hj with hj
          subst hj
          have : ((putVals vs (i * w) (a.eval x).cells.toList).toList.drop (i * w)).take w = (a.eval x).cells.toList := by
            apply List.ext_getElem?
            intro q
            rw [List.getElem?_take, List.getElem?_drop, Array.getElem?_toList, get_put hle]
            simp only [Array.length_toList, hl1]
            by_cases hq : q < w
            · rw [if_pos hq, if_neg (by omega), if_pos (by omega)]; congr 1; omega
            · rw [if_neg hq, List.getElem?_eq_none (by simp [hl1]; omega)]
          rw [this]
          exact hx.1
        · rw [if_neg e] at hj
          have : ((putVals vs (i * w) (a.eval x).cells.toList).toList.drop (j * w)).take w = (vs.toList.drop (j * w)).take w := by
            apply List.ext_getElem?
            intro q
            rw [List.getElem?_take, List.getElem?_take]
            by_cases hq : q < w
            · rw [if_pos hq, if_pos hq, List.getElem?_drop, List.getElem?_drop, Array.getElem?_toList, Array.getElem?_toList, get_put hle]
              simp only [Array.length_toList, hl1]
              rcases Nat.lt_or_ge j i with hlt2 | hge
              · have := row_lt (w := w) hlt2 hq
                rw [if_pos this]
              · have : i * w + w ≤ j * w := by rw [← Nat.succ_mul]; exact Nat.mul_le_mul_right _ (by omega)
                rw [if_neg (by omega), if_neg (by omega)]
            · rw [if_neg hq, if_neg hq]
          rw [this]
          exact hv.2.2 j c hj)
      refine ⟨us, ?_, h2, by rw [h3, List.length_set]⟩
      unfold Instr.fill
      simp only
      rw [if_neg (by simp; omega)]
      have hf := fold_set (i * w) (a.eval x).cells.toList 0 vs (by simpa using hle)
      simp only [Nat.add_zero] at hf
      unfold putVals at h1
      rw [← hf] at h1
      rw [← Array.foldl_toList, Array.toList_zipIdx]
      exact h1

theorem parseEach_rd {w : Nat} {e : Ty} (hc : CallSound cx call) (hr : HR cx.P W F E N h) (hw : w = width e) : ∀ (ls : List (List Cell)) (xs : List (El e)) (ns : List Nat) (vs : List Value), parseEach cx call h e ls = some (xs, ns) →
    (∀ i c, ls[i]? = some c → RdCells cx.P W F E c ((vs.drop (i * w)).take w)) →
    xs.length = ls.length ∧ ∀ i (hi : i < xs.length), Rd cx.P e xs[i] W (FzPlus F h E ns) (fun j => vs[i * w + j]?) := by
  intro ls
  induction ls with
  | nil =>
    intro xs ns vs hp _
    simp [parseEach] at hp
    obtain ⟨rfl, rfl⟩ := hp
    exact ⟨rfl, fun i hi => by simp at hi⟩
  | cons c ls ih =>
    intro xs ns vs hp hv
    simp only [parseEach, Option.bind_eq_some_iff, Option.map_eq_some_iff] at hp
    obtain ⟨x, hx, y, hy, hxy⟩ := hp
    injection hxy with h1 h2
    subst h1; subst h2
    obtain ⟨k1, k2⟩ := parseAll_rd hc hr hx (hv 0 c rfl)
    obtain ⟨k3, k4⟩ := ih y.1 y.2 (vs.drop w) hy (fun i c hi => by
      have := hv (i + 1) c (by simpa using hi)
      rw [List.drop_drop]
      rw [Nat.succ_mul, Nat.add_comm] at this
      exact this)
    refine ⟨by simp [k3], fun i hi => ?_⟩
    cases i with
    | zero =>
      simp only [List.getElem_cons_zero]
      refine Rd.congr e (fun q hq => ?_) (k1.later (Later.same FzPlus.left))
      simp only [Nat.zero_mul, Nat.zero_add, List.drop_zero]
      rw [List.getElem?_take, if_pos (by omega)]
    | succ i =>
      simp only [List.getElem_cons_succ]
      have := k4 i (by simpa using hi)
      refine Rd.congr e (fun q hq => ?_) (this.later (Later.same FzPlus.right))
      rw [List.getElem?_drop]
      congr 1
      rw [Nat.succ_mul]; omega

end
end Go.Flat
