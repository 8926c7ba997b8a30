/-
  Soundness of the flat reading, twenty-first part: append, copy, clear as operations.
-/
import Derived.Test.YtmooabafkcfbhaaFlatTB
namespace Go.Flat
open Go.RowKit (Below)

section
variable {cx : Cx} {call : Oracle cx} {fx : Hints} {W W' : World} {F F' : Fz} {E E' : EnvM} {h : Heap} {N : Nat → Prop} {ρ : Operand → V} {a : Act} {R : Type}

/-- the table's word on a type of elements -/
theorem elem_of {et : TypeId} {e : Ty} (ht : TabOk cx) (he : cx.ty et = some e) :
    ∃ ti z, cx.P.info? et = some ti ∧ ti.size = width e ∧ ti.bytes = cx.bytes et ∧ ti.zero = some z ∧ z.cells.size = width e ∧ (∀ u ∈ z.cells.toList, u.oneCell' = true) ∧
      (∀ W F E, RdCells cx.P W F E (zeroCells e) z.cells.toList) := by
  obtain ⟨ti, t1, t2, z, t3, t4, t5⟩ := (ty_of ht he).ti
  have hbytes : ti.bytes = cx.bytes et := by
    unfold Cx.bytes
    cases hi : cx.info et with
    | none => simp [Cx.ty, hi] at he
    | some i =>
      obtain ⟨tj, j1, _, j2, _⟩ := (ht et i hi).info
      rw [t1] at j1
      injection j1 with j1
      subst j1
      exact j2
  have hzc : ∀ W F E, RdCells cx.P W F E (zeroCells e) z.cells.toList := fun _ _ _ => eqLits_rd t4
  have h0 := hzc ⟨#[], fun _ _ => 0, 0, default, #[]⟩ (fun _ => False) ⟨fun _ _ => none, fun _ => 0⟩
  refine ⟨ti, z, t1, t2, hbytes, t3, ?_, RdCells.one_all h0, hzc⟩
  have := h0.1
  rw [zero_length] at this
  simpa using this.symm

theorem noZeros_of {ts : Array TypeId} (ht : TabOk cx) (hz : noZerosB cx ts = true) : NoZeros cx.P ts := by
  intro u hu
  unfold noZerosB at hz
  rw [hu] at hz
  simp only [Option.map_some] at hz
  cases hs : cx.shp u with
  | slice e => exact .inl ⟨e, shp_slice ht hs⟩
  | str => exact .inr (shp_str ht hs)
  | _ => rw [hs] at hz; cases hz

/-- what is asked of the slice that is appended to: it is empty, or a row of one's own from its start on -/
inductive AppTo (cx : Cx) (W : World) (F : Fz) (E : EnvM) (h : Heap) (n : Nat) (e : Ty) : List (El e) → Value → Prop where
  | nil (p : Option Addr) : AppTo cx W F E h n e [] (.slice p 0 0)
  | row {ver : Nat} {xs : List (El e)} {b cap m : Nat} (hn : h[n]? = some (ver, some (.arr e xs false))) (hL : E.m n ver = some (.arr b (width e) xs.length cap)) (hA : ArrAt cx.P W F b cap e xs) (hfree : ¬ F b) (hm : m ≤ xs.length) :
      AppTo cx W F E h n e (xs.take m) (.slice (some ⟨b, 0, none⟩) m cap)

theorem op_append_core {o : Oper} {cl : Go.Call} {k : V → Ups → Option R} {r : R} {s x : Operand} {t et : TypeId} {e : Ty} {xs ys : List (El e)} {news : List Value} {n : Nat}
    (cc : Ctx cx call W F E N h ρ a) (hK : KOk N h k) (ho : o.op = .call cl) (hc : cl.callee = .builtin .append) (hargs : cl.args = #[s, x]) (ht : cl.argTypes[0]? = some t) (hs : cx.shp t = .slice et)
    (hnz : noZerosB cx cl.argTypes = true) (he : cx.ty et = some e) (hw : (sameW cx et e && Nat.blt 0 (cx.bytes et)) = true) (hto : AppTo cx W F E h n e xs (a.eval s))
    (hx : Src cx.P W (width e) (a.eval x) ys.length news) (hy : ∀ i (h : i < ys.length), Rd cx.P e ys[i] W F (fun j => news[i * width e + j]?))
    (hb : (xs.length + ys.length) * cx.bytes et ≤ 140737488355328)
    (hk : k (.v false [.lall n (verOf h n + 1)]) [(n, verOf h n + 1, some (.arr e (xs ++ ys) false))] = some r) : Sound cx W F E N h a o k r := by
  simp only [Bool.and_eq_true] at hw
  have hwpos := sameW_pos hw.1
  have hb0 : 0 < cx.bytes et := by simpa [Nat.blt_eq] using hw.2
  obtain ⟨hN, hlt⟩ := hK _ _ _ hk n (by simp [upNames])
  obtain ⟨ti, z, t1, t2, t3, t4, t5, t6, _⟩ := elem_of cc.tab he
  have hnz := noZeros_of cc.tab hnz
  have hu := shp_slice cc.tab hs
  have hlen : xs.length + ys.length ≤ maxLen := by
    have : xs.length + ys.length ≤ (xs.length + ys.length) * cx.bytes et := Nat.le_mul_of_pos_right _ hb0
    simp only [maxLen]; omega
  have hsrc : Src cx.P W ti.size (a.eval x) ys.length news := by rw [t2]; exact hx
  rw [verOf_top cc.hr hN hlt] at hk
  have fin : ∀ {v' : Value} {W' : World} {L' : Loc} {row : Option Nat}, (Builtin.append_ cl.argTypes o.type #[a.eval s, a.eval x]).run cx.P W = .ok v' W' → W.grownBy W' row →
      (∀ b, row = some b → atName h E n b ∧ ¬ F b) → BlkRel cx.P W' F (E.next n (some L')) L' (.arr e (xs ++ ys) false) →
      (∀ x, L'.blk = some x → row = some x ∨ (W.heap.size ≤ x ∧ x < W'.heap.size)) → RdLoc (.lall n (E.top n + 1)) L' v' → v'.oneCell' = true → Sound cx W F E N h a o k r := by
    intro v' W' L' row hrun hg hrow hB hL hv h1
    have hpost := OpPost.turn (ns := []) (F' := F) cc.hr cc.hF hN hlt (EnvM.next_le E n (some L')) (EnvM.next_top E n (some L')) (fun m hm => EnvM.next_other E n _ m hm) hg
      (by rw [fzPlus_nil]; exact hrow) (by rw [fzPlus_nil]; exact fun _ hb => hb) (by rw [fzPlus_nil]; exact fun _ hb => .inl hb) ⟨L', EnvM.next_m E n (some L'), hB, hL⟩
    refine ⟨_, _, hk, OpOk.of (v := v') ?_ hpost (RdV.mk1 ⟨?_, ⟨L', ?_⟩, fun L hL => ?_⟩ h1)⟩
    · simp [execOp, ho, resolve, hc, hargs, invoke, builtin, hrun]
    · rw [EnvM.next_top]; exact Nat.le_refl _
    · rw [EnvM.next_m]
    · rw [EnvM.next_m] at hL
      injection hL with hL
      subst hL
      exact hv
  have grow : ∀ {b : Option Addr} {cap : Nat} {olds : List Value}, a.eval s = .slice b xs.length cap → cap < xs.length + ys.length →
      (∀ w' : World, (∀ a, w'.cell? a = W.cell? a) → (Builtin.firstCells ti.size xs.length (.slice b xs.length cap)).run cx.P w' = .ok olds.toArray w') →
      olds.length = xs.length * width e → (∀ u ∈ olds, u.oneCell' = true) → (∀ i (h : i < xs.length), Rd cx.P e xs[i] W F (fun j => olds[i * width e + j]?)) → Sound cx W F E N h a o k r := by
    intro b cap olds hs hcap hold h1 h2 h3
    have hrun := run_app_grows (ty := o.type) ht hnz hu t1 t4 hsrc hcap (by rw [t3]; exact hb0) (by rw [t3]; exact hb) hold
    rw [← hs] at hrun
    have hA := ArrAt.grown (et := et) (z := z.cells) (old := cap) cc.hF h1 h2 h3 hx.size hx.one hy t5 t6 hwpos hlen
    refine fin (L' := .arr W.heap.size (width e) (xs ++ ys).length (grownCap W (xs.length + ys.length) cap et)) (row := none) hrun ⟨rfl, rfl, rfl, by simp, fun k hk _ => al_old W.drew _ k hk⟩ (fun _ hb => by cases hb)
      (.inr ⟨_, _, rfl, hA, fun _ hf => ?_, fun e => by cases e⟩) (fun x hx => ?_) ?_ rfl
    · have := cc.hF _ hf; omega
    · injection hx with hx
      subst hx
      exact .inr (by simp)
    · show _ = Value.slice _ (xs ++ ys).length _
      rw [List.length_append]
  generalize hv : a.eval s = v at hto
  cases hto with
  | nil p =>
    rcases Nat.eq_zero_or_pos ys.length with hy0 | hy0
    · have hyn : ys = [] := List.eq_nil_of_length_eq_zero hy0
      have hn0 : news = [] := List.eq_nil_of_length_eq_zero (by rw [hx.size, hy0]; simp)
      have hrun := run_app_fits (P := cx.P) (W := W) (W' := W) (ty := o.type) (n := 0) (cap := 0) (b := p) ht hnz hu t1 hsrc (by omega) (fun ad _ => by rw [hn0]; simp [storeCells]) (fun _ => rfl)
      rw [← hv, hy0] at hrun
      exact fin (L' := .nil) (row := none) hrun ⟨rfl, rfl, rfl, Nat.le_refl _, fun _ _ _ => rfl⟩ (fun _ hb => by cases hb) (.inl ⟨rfl, by simp [hyn]⟩) (fun _ hx => by cases hx) ⟨p, rfl⟩ rfl
    · refine grow (b := p) (cap := 0) (olds := []) hv (by simpa using hy0) (fun w' _ => ?_) (by simp) (by simp) (fun i hi => by simp at hi)
      cases p with
      | none => simp [Builtin.firstCells]
      | some p => simp [Builtin.firstCells, loadCells, loadCellsFrom]
  | @row ver xs b cap m hn hL hA hfree hm =>
    have hat : atName h E n b := ⟨ver, _, _, hn, hL, rfl⟩
    have htl : (xs.take m).length = m := by rw [List.length_take]; omega
    obtain ⟨cs, T, q1, q2, q3, q4, q5, q6⟩ := hA
    by_cases hfit : m + ys.length ≤ cap
    · have hle : m * width e + news.length ≤ cs.size := by rw [hx.size, q2, ← Nat.add_mul]; exact Nat.mul_le_mul_right _ hfit
      have hst := run_storeCells_at cx.P b (m * width e) T news 0 cs W q1 (by simpa using hle) hx.one
      simp only [Nat.add_zero] at hst
      have hrun := run_app_fits (P := cx.P) (W := W) (W' := W.setRow b (putVals cs (m * width e) news)) (ty := o.type) (b := some ⟨b, 0, none⟩) ht hnz hu t1 hsrc hfit
        (fun ad hd => by injection hd with hd; subst hd; rw [addr_add, t2, Nat.zero_add]; exact hst) (fun e => by cases e)
      rw [← hv] at hrun
      have hput := ArrAt.put (zs := xs.take m ++ ys) (p := m) hfree q1 q2 q4 q5 q6 hx.size hx.one hy hm hfit (by rw [List.length_append, htl]; exact hfit) (fun i hi => by
        rw [List.length_append, htl] at hi
        by_cases hi1 : i < m
        · exact .inl ⟨hi1, by omega, by rw [List.getElem_append_left (by rw [htl]; exact hi1)]; simp⟩
        · exact .inr (.inl ⟨by omega, by omega, by rw [List.getElem_append_right (by rw [htl]; omega)]; simp [htl]⟩))
      refine fin (L' := .arr b (width e) (xs.take m ++ ys).length cap) (row := some b) hrun ⟨rfl, rfl, rfl, by simp, fun k _ hk => setRow_other W b k _ (fun e => hk (by rw [e]))⟩
        (fun x hx => by injection hx with hx; subst hx; exact ⟨hat, hfree⟩) (.inr ⟨b, cap, rfl, hput, fun _ => hfree, fun e => by cases e⟩) (fun x hx => .inl hx) ?_ rfl
      show _ = Value.slice _ (xs.take m ++ ys).length _
      rw [List.length_append, htl]
    · have hrd : ∀ i (hi : i < (xs.take m).length), Rd cx.P e (xs.take m)[i] W F (mem W b (0 + i * width e)) := by
        intro i hi
        rw [htl] at hi
        have := arr_mem (P := cx.P) (W := W) (F := F) (b := b) (cap := cap) (e := e) (xs := xs) ⟨cs, T, q1, q2, q3, q4, q5, q6⟩ i (by omega)
        simpa using this
      obtain ⟨olds, o1, o2, o3, o4⟩ := rows_of hrd
      refine grow (b := some ⟨b, 0, none⟩) (cap := cap) (olds := olds) (by rw [htl]; exact hv) (by rw [htl]; omega) (fun w' hw' => ?_) o1 o2 o4
      refine run_firstCells_some w' ti.size _ ⟨b, 0, none⟩ _ cap olds (by rw [t2]; exact o1) (fun j u hu => ?_)
      rw [hw', addr_add]
      exact o3 j u hu

end
end Go.Flat
