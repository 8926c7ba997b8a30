/-
  Series: which are right, by the program and by the document.
-/
import Derived.Test.YthjnbidgliejkaaGreatP12b
import Derived.Test.YthjnbidgliejkaaGreatP14c
namespace Go.Proofs.YthjnbidgliejkaaGreat
open Go.Flat Go.Plim
set_option linter.unusedVariables false
set_option linter.unusedSimpArgs false
abbrev Ser := List Lab × (Int × (Rw × (Trs × Slo)))
structure SerW (s : Ser) : Prop where
  last : I64 s.2.1
  raw : RawW s.2.2.1
  trs : TrsW s.2.2.2.1
  opn : SloW s.2.2.2.2
/-- no slot of a window, or of one behind it -/
def NoBehind (l : List Slo) (i : Int) : Prop := ∀ s ∈ l, 0 < s.2.1 → s.1 < i
noncomputable instance (l i) : Decidable (NoBehind l i) := Classical.propDecidable _
structure Fresh (s : Ser) : Prop where
  raw : s.2.2.1.2.2 = []
  opn : s.2.2.2.2 = s0
  b0 : NoBehind s.2.2.2.1.1 0
  b1 : NoBehind s.2.2.2.1.2.1 0
  b2 : NoBehind s.2.2.2.1.2.2 0
structure EndsP (c : Conf) (s : Ser) : Prop where
  last : ∃ e, s.2.2.1.2.2.getLast? = some e ∧ e.1 = s.2.1
  ol : s.2.2.2.2.2.2.2.1.1 = s.2.1
  fit : FitsP s.2.2.2.2.2 c.2.1.1 s.2.2.2.2.1
  b0 : NoBehind s.2.2.2.1.1 (s.2.1 / c.2.1.1)
  b1 : NoBehind s.2.2.2.1.2.1 (s.2.1 / c.2.1.2.1)
  b2 : NoBehind s.2.2.2.1.2.2 (s.2.1 / c.2.1.2.2)
/-- a series that is right -/
structure SerOk (c : Conf) (s : Ser) : Prop where
  fold : FoldOk c s.2.2.2.1
  lab : LabOk s.1
  raw : RawOk s.2.2.1 c.1
  st : (s.2.1 = -1 ∧ Fresh s) ∨ (s.2.1 ≠ -1 ∧ EndsP c s)
noncomputable instance (s) : Decidable (Fresh s) := Classical.propDecidable _
noncomputable instance (c s) : Decidable (EndsP c s) := Classical.propDecidable _
noncomputable instance (c s) : Decidable (SerOk c s) := Classical.propDecidable _
theorem contains_slot (n : Nat) {del : TSlot × Unit → Option Bool} {p : Slo → Bool} (hd : ∀ x, del (x, ()) = some (p x)) (l : List Slo) (hL : l.length ≤ 1000000) : slices_ContainsFunc_Slot (n + 2) l del = some (l.any p) := by
  rw [slices_ContainsFunc_Slot_eq, slices_IndexFunc_Slot_eq]
  rcases index_l hd n l hL l [] loopFuel 0 l.length rfl rfl rfl (by unfold loopFuel; omega) with ⟨h1, h2⟩ | ⟨A, x, B, h1, h2, h3, h4⟩
  · rw [h1]
    have : l.any p = false := by rw [List.any_eq_false]; intro x hx; simp [h2 x hx]
    rw [this]; rfl
  · rw [h4]
    have : l.any p = true := List.any_eq_true.2 ⟨x, by rw [h1]; simp, h3⟩
    simp only [obind_some, selim_inr, this, Int.zero_add]
    rw [decide_eq_true (by omega)]
theorem series_behind_val (n : Nat) (l : List Slo) (i : Int) (hL : l.length ≤ 1000000) : series_behind (n + 3) l i = some (!decide (NoBehind l i)) := by
  rw [series_behind_eq, contains_slot (p := fun s => decide (0 < s.2.1 ∧ i ≤ s.1)) n (fun x => by
    show series_behind_1 (n + 1 + 1) x i = _
    rw [series_behind_1_eq]
    by_cases h1 : 0 < x.2.1 <;> by_cases h2 : i ≤ x.1 <;> simp [h1, h2]) l hL]
  simp only [obind_some]
  refine congrArg some ?_
  by_cases h : NoBehind l i
  · rw [decide_eq_true h]
    rw [List.any_eq_false.2]
    · rfl
    · intro x hx k
      have := of_decide_eq_true k
      have := h x hx this.1
      omega
  · rw [decide_eq_false h]
    have : ∃ x ∈ l, 0 < x.2.1 ∧ i ≤ x.1 := Classical.byContradiction fun k => h fun x hx hc => by
      rcases Int.lt_or_le x.1 i with q | q
      · exact q
      · exact absurd ⟨x, hx, hc, q⟩ k
    obtain ⟨x, hx, hq⟩ := this
    rw [List.any_eq_true.2 ⟨x, hx, decide_eq_true hq⟩]
    rfl
theorem kept_fresh (n : Nat) (c : Conf) {s : Ser} (hf : FoldOk c s.2.2.2.1) : series_kept_fresh (n + 4) (c, s) = some (decide (Fresh s)) := by
  obtain ⟨l0, l1, l2⟩ := hf.lens
  rw [series_kept_fresh_eq, sloEq0, series_behind_val n _ _ l0, series_behind_val n _ _ l1, series_behind_val n _ _ l2]
  simp only [obind_some, Bool.not_not, tif_dec]
  by_cases h1 : (s.2.2.1.2.2.length : Int) = 0
  case neg => rw [if_neg h1, decide_eq_false (fun k : Fresh s => h1 (by rw [k.raw]; rfl))]
  rw [if_pos h1]
  by_cases h2 : s.2.2.2.2 = s0
  case neg => rw [if_neg h2, decide_eq_false (fun k : Fresh s => h2 k.opn)]
  rw [if_pos h2]
  by_cases h3 : NoBehind s.2.2.2.1.1 0
  case neg => rw [if_neg h3, decide_eq_false (fun k : Fresh s => h3 k.b0)]
  rw [if_pos h3]
  by_cases h4 : NoBehind s.2.2.2.1.2.1 0
  case neg => rw [if_neg h4, decide_eq_false (fun k : Fresh s => h4 k.b1)]
  rw [if_pos h4]
  refine congrArg some (decide_eq_decide.2 ⟨fun k => ⟨List.length_eq_zero_iff.1 (by omega), h2, h3, h4, k⟩, fun k => k.b2⟩)
theorem last_ok {c : Conf} {s : Ser} (hr : RawOk s.2.2.1 c.1) {e : Ev} (he : s.2.2.1.2.2.getLast? = some e) : EvOk e := hr.f.ok e (List.mem_of_getLast? he)
theorem kept_ends (n : Nat) (c : Conf) {s : Ser} (hf : FoldOk c s.2.2.2.1) (hr : RawOk s.2.2.1 c.1) (hw : SerW s) : series_kept_ends (n + 7) (c, s) = some (decide (EndsP c s)) := by
  obtain ⟨l0, l1, l2⟩ := hf.lens
  have hg := hf.cok.rng
  have hlen := hr.len; have hm1 := hr.m1
  rw [series_kept_ends_eq, raw_last (n + 5) s.2.2.1 (by omega)]
  cases hl : s.2.2.1.2.2.getLast? with
  | none =>
    simp only [obind_some]
    rw [show (decide ((3 : Int) = 0)) = false from rfl, tif_false, decide_eq_false]
    intro k
    obtain ⟨e, he, _⟩ := k.last
    rw [hl] at he; cases he
  | some e =>
    have heo := last_ok hr hl
    simp only [obind_some, decide_true, tif_true, tif_dec, if_true]
    by_cases h1 : e.1 = s.2.1
    case neg =>
      rw [if_neg h1, decide_eq_false]
      intro k
      obtain ⟨e', he, hq⟩ := k.last
      rw [hl] at he; injection he with he; subst he; exact h1 hq
    rw [if_pos h1]
    by_cases h2 : s.2.2.2.2.2.2.2.1.1 = s.2.1
    case neg => rw [if_neg h2, decide_eq_false (fun k : EndsP c s => h2 k.ol)]
    have q0 := quo_ev heo hg.w0.1; have q1 := quo_ev heo hg.w1.1; have q2 := quo_ev heo hg.w2.1
    rw [h1] at q0 q1 q2
    rw [if_pos h2, tier_fits n hw.opn.c]
    simp only [obind_some, tif_dec, q0, q1, q2, series_behind_val (n + 3) _ _ l0, series_behind_val (n + 3) _ _ l1, series_behind_val (n + 3) _ _ l2, Bool.not_not, if_neg (show ¬ (c.2.1.1 = 0) by have := hg.w0; omega), if_neg (show ¬ (c.2.1.2.1 = 0) by have := hg.w1; omega), if_neg (show ¬ (c.2.1.2.2 = 0) by have := hg.w2; omega)]
    by_cases h3 : FitsP s.2.2.2.2.2 c.2.1.1 s.2.2.2.2.1
    case neg => rw [if_neg h3, decide_eq_false (fun k : EndsP c s => h3 k.fit)]
    rw [if_pos h3]
    by_cases h4 : NoBehind s.2.2.2.1.1 (s.2.1 / c.2.1.1)
    case neg => rw [if_neg h4, decide_eq_false (fun k : EndsP c s => h4 k.b0)]
    rw [if_pos h4]
    by_cases h5 : NoBehind s.2.2.2.1.2.1 (s.2.1 / c.2.1.2.1)
    case neg => rw [if_neg h5, decide_eq_false (fun k : EndsP c s => h5 k.b1)]
    rw [if_pos h5]
    refine congrArg some (decide_eq_decide.2 ⟨fun k => ⟨⟨e, hl, h1⟩, h2, h3, h4, h5, k⟩, fun k => k.b2⟩)
theorem z08 (p : Prop) [Decidable p] : ((if p then (0 : Int) else 8) = 0) ↔ p := by by_cases h : p <;> simp [h]
theorem series_open_val (n : Nat) (c : Conf) {s : Ser} (hw : SerW s) : series_open (n + 10) c s = some (if SerOk c s then (some (c, s), 0) else (none, 2)) := by
  rw [series_open_eq, fold_check n c hw.trs, label_check (n + 3), raw_check (n + 4) _ _ hw.raw]
  simp only [obind_some, tif_not, tif_dec]
  by_cases h1 : FoldOk c s.2.2.2.1
  case neg => rw [if_neg (mt (z02 _).1 h1), if_neg (fun k : SerOk c s => h1 k.fold)]
  by_cases h2 : LabOk s.1
  case neg => rw [if_pos ((z02 _).2 h1), if_neg (mt (z08 _).1 h2), if_neg (fun k : SerOk c s => h2 k.lab)]
  by_cases h3 : RawOk s.2.2.1 c.1
  case neg => rw [if_pos ((z02 _).2 h1), if_pos ((z08 _).2 h2), if_neg (mt (z02 _).1 h3), if_neg (fun k : SerOk c s => h3 k.raw)]
  rw [if_pos ((z02 _).2 h1), if_pos ((z08 _).2 h2), if_pos ((z02 _).2 h3), kept_fresh (n + 5) c h1, kept_ends (n + 2) c h1 h3 hw]
  simp only [obind_some, tif_dec]
  by_cases h4 : s.2.1 = -1
  · rw [if_pos h4]
    by_cases h5 : Fresh s
    · rw [if_pos h5, if_pos (⟨h1, h2, h3, .inl ⟨h4, h5⟩⟩ : SerOk c s)]
    · rw [if_neg h5, if_pos h4, if_neg (fun k : SerOk c s => by
        rcases k.st with q | q
        · exact h5 q.2
        · exact q.1 h4)]
  · rw [if_neg h4, if_neg h4]
    by_cases h5 : EndsP c s
    · rw [if_pos h5, if_pos (⟨h1, h2, h3, .inr ⟨h4, h5⟩⟩ : SerOk c s)]
    · rw [if_neg h5, if_neg (fun k : SerOk c s => by
        rcases k.st with q | q
        · exact h4 q.1
        · exact h5 q.2)]
/-! ### the document's -/
theorem noBehind_iff {l : List Slo} {w : Int} (h : TierOk l w) (i : Int) : NoBehind l i ↔ ∀ s ∈ tall l, s.1 < i := by
  constructor
  · intro k s hs
    have := (tall_N h hs).n1
    exact k s (mem_tall.1 hs).1 (by omega)
  · intro k s hs hc
    exact k s (mem_tall.2 ⟨hs, fun e => by rw [e] at hc; simp [s0, z0] at hc⟩)
theorem noBehind0 {l : List Slo} {w : Int} (h : TierOk l w) : NoBehind l 0 ↔ tall l = [] := by
  rw [noBehind_iff h]
  constructor
  · intro k
    by_cases e : tall l = []
    · exact e
    · obtain ⟨s, hs⟩ := List.exists_mem_of_ne_nil _ e
      have := (tall_fits h hs).1.i0
      have := k s hs
      omega
  · intro e s hs; rw [e] at hs; cases hs
theorem r15_l7_3 (n f : Nat) (s : Ser) : r15_Check_l7 n (f + 1) (s, (3 : Int), ()) = some (.inl ()) := by
  rw [r15_Check_l7_eq, show (decide ((3 : Int) < 3)) = false from rfl, tif_false]
theorem r15_l7 (n f : Nat) (c : Conf) {s : Ser} (h : FoldOk c s.2.2.2.1) : r15_Check_l7 (n + 1) (f + 4) (s, (0 : Int), ()) = some (if NoBehind s.2.2.2.1.1 0 ∧ NoBehind s.2.2.2.1.2.1 0 ∧ NoBehind s.2.2.2.1.2.2 0 then .inl () else .inr 2) := by
  have n0 := noBehind0 h.t0; have n1 := noBehind0 h.t1; have n2 := noBehind0 h.t2
  have len : ∀ {l : List Slo}, ((0 : Int) < (tall l).length) ↔ tall l ≠ [] := fun {l} => by
    have := List.length_pos_iff (l := tall l)
    constructor
    · intro k; exact this.1 (by omega)
    · intro k; have := this.2 k; omega
  rw [r15_Check_l7_eq, show (decide ((0 : Int) < 3)) = true from rfl, tif_true, show (decide ((0 : Int) = 0)) = true from rfl, tif_true, r13_all n h.t0]
  simp only [obind_some, tif_dec]
  by_cases c0 : NoBehind s.2.2.2.1.1 0
  case neg => rw [if_pos (len.2 (mt n0.2 c0)), if_neg (fun k => c0 k.1)]
  rw [if_neg (fun k => (len.1 k) (n0.1 c0)), show IntKind.wrap .i64 ((0 : Int) + 1) = 1 from rfl, r15_Check_l7_eq, show (decide ((1 : Int) < 3)) = true from rfl, tif_true, show (decide ((1 : Int) = 0)) = false from rfl, tif_false, show (decide ((1 : Int) = 1)) = true from rfl, tif_true, r13_all n h.t1]
  simp only [obind_some, tif_dec]
  by_cases c1 : NoBehind s.2.2.2.1.2.1 0
  case neg => rw [if_pos (len.2 (mt n1.2 c1)), if_neg (fun k => c1 k.2.1)]
  rw [if_neg (fun k => (len.1 k) (n1.1 c1)), show IntKind.wrap .i64 ((1 : Int) + 1) = 2 from rfl, r15_Check_l7_eq, show (decide ((2 : Int) < 3)) = true from rfl, tif_true, show (decide ((2 : Int) = 0)) = false from rfl, tif_false, show (decide ((2 : Int) = 1)) = false from rfl, tif_false, show (decide ((2 : Int) = 2)) = true from rfl, tif_true, r13_all n h.t2]
  simp only [obind_some, tif_dec]
  by_cases c2 : NoBehind s.2.2.2.1.2.2 0
  case neg => rw [if_pos (len.2 (mt n2.2 c2)), if_neg (fun k => c2 k.2.2)]
  rw [if_neg (fun k => (len.1 k) (n2.1 c2)), show IntKind.wrap .i64 ((2 : Int) + 1) = 3 from rfl, r15_l7_3, if_pos ⟨c0, c1, c2⟩]
theorem r15_l19_0 (n : Nat) (c : Conf) (s : Ser) (at_ : Int) (hw : 1 ≤ c.2.1.1) (hq : IntKind.wrap .i64 (Int.tdiv s.2.1 c.2.1.1) = at_) (l : List Slo) (hL : l.length ≤ 1000000) : ∀ (rest pre : List Slo) (f : Nat) (ix len : Int), l = pre ++ rest → ix = pre.length → len = l.length → rest.length < f →
    ((∀ x ∈ rest, x.1 < at_) → r15_Check_l19 n f (c, s, (0 : Int), l, len, ix, ()) = some (.inl (c, s, (0 : Int), ()))) ∧ (¬ (∀ x ∈ rest, x.1 < at_) → r15_Check_l19 n f (c, s, (0 : Int), l, len, ix, ()) = some (.inr 2)) := by
  intro rest
  induction rest with
  | nil =>
    intro pre f ix len hl hi hn hf
    obtain ⟨f, rfl⟩ : ∃ g, f = g + 1 := ⟨f - 1, by simp at hf; omega⟩
    rw [r15_Check_l19_eq]
    exact ⟨fun _ => by simp only [tif_dec, if_neg (idxe hl hi hn)], fun k => absurd (by simp) k⟩
  | cons x rest ih =>
    intro pre f ix len hl hi hn hf
    obtain ⟨f, rfl⟩ : ∃ g, f = g + 1 := ⟨f - 1, by simp at hf; omega⟩
    rw [r15_Check_l19_eq, decide_eq_true (idx hl hi hn), tif_true, at_mid hl hi, obind_some]
    rw [show (decide ((0 : Int) = 0)) = true from rfl, tif_true]
    simp only [tif_dec, if_neg (show ¬ (c.2.1.1 = 0) by omega), hq, idxw hl hi (show l.length ≤ 1000000000000 by omega)]
    have ih' := ih (pre ++ [x]) f (ix + 1) len (idxl hl) (idxs hi) hn (by simp at hf; omega)
    by_cases h1 : at_ ≤ x.1
    · rw [if_pos h1]
      exact ⟨fun k => by have := k x (by simp); omega, fun _ => rfl⟩
    · rw [if_neg h1]
      exact ⟨fun k => ih'.1 fun y hy => k y (by simp [hy]), fun k => ih'.2 fun q => k fun y hy => by
        rcases List.mem_cons.1 hy with rfl | hy
        · omega
        · exact q y hy⟩
theorem r15_l19_1 (n : Nat) (c : Conf) (s : Ser) (at_ : Int) (hw : 1 ≤ c.2.1.2.1) (hq : IntKind.wrap .i64 (Int.tdiv s.2.1 c.2.1.2.1) = at_) (l : List Slo) (hL : l.length ≤ 1000000) : ∀ (rest pre : List Slo) (f : Nat) (ix len : Int), l = pre ++ rest → ix = pre.length → len = l.length → rest.length < f →
    ((∀ x ∈ rest, x.1 < at_) → r15_Check_l19 n f (c, s, (1 : Int), l, len, ix, ()) = some (.inl (c, s, (1 : Int), ()))) ∧ (¬ (∀ x ∈ rest, x.1 < at_) → r15_Check_l19 n f (c, s, (1 : Int), l, len, ix, ()) = some (.inr 2)) := by
  intro rest
  induction rest with
  | nil =>
    intro pre f ix len hl hi hn hf
    obtain ⟨f, rfl⟩ : ∃ g, f = g + 1 := ⟨f - 1, by simp at hf; omega⟩
    rw [r15_Check_l19_eq]
    exact ⟨fun _ => by simp only [tif_dec, if_neg (idxe hl hi hn)], fun k => absurd (by simp) k⟩
  | cons x rest ih =>
    intro pre f ix len hl hi hn hf
    obtain ⟨f, rfl⟩ : ∃ g, f = g + 1 := ⟨f - 1, by simp at hf; omega⟩
    rw [r15_Check_l19_eq, decide_eq_true (idx hl hi hn), tif_true, at_mid hl hi, obind_some]
    rw [show (decide ((1 : Int) = 0)) = false from rfl, tif_false, show (decide ((1 : Int) = 1)) = true from rfl, tif_true]
    simp only [tif_dec, if_neg (show ¬ (c.2.1.2.1 = 0) by omega), hq, idxw hl hi (show l.length ≤ 1000000000000 by omega)]
    have ih' := ih (pre ++ [x]) f (ix + 1) len (idxl hl) (idxs hi) hn (by simp at hf; omega)
    by_cases h1 : at_ ≤ x.1
    · rw [if_pos h1]
      exact ⟨fun k => by have := k x (by simp); omega, fun _ => rfl⟩
    · rw [if_neg h1]
      exact ⟨fun k => ih'.1 fun y hy => k y (by simp [hy]), fun k => ih'.2 fun q => k fun y hy => by
        rcases List.mem_cons.1 hy with rfl | hy
        · omega
        · exact q y hy⟩
theorem r15_l19_2 (n : Nat) (c : Conf) (s : Ser) (at_ : Int) (hw : 1 ≤ c.2.1.2.2) (hq : IntKind.wrap .i64 (Int.tdiv s.2.1 c.2.1.2.2) = at_) (l : List Slo) (hL : l.length ≤ 1000000) : ∀ (rest pre : List Slo) (f : Nat) (ix len : Int), l = pre ++ rest → ix = pre.length → len = l.length → rest.length < f →
    ((∀ x ∈ rest, x.1 < at_) → r15_Check_l19 n f (c, s, (2 : Int), l, len, ix, ()) = some (.inl (c, s, (2 : Int), ()))) ∧ (¬ (∀ x ∈ rest, x.1 < at_) → r15_Check_l19 n f (c, s, (2 : Int), l, len, ix, ()) = some (.inr 2)) := by
  intro rest
  induction rest with
  | nil =>
    intro pre f ix len hl hi hn hf
    obtain ⟨f, rfl⟩ : ∃ g, f = g + 1 := ⟨f - 1, by simp at hf; omega⟩
    rw [r15_Check_l19_eq]
    exact ⟨fun _ => by simp only [tif_dec, if_neg (idxe hl hi hn)], fun k => absurd (by simp) k⟩
  | cons x rest ih =>
    intro pre f ix len hl hi hn hf
    obtain ⟨f, rfl⟩ : ∃ g, f = g + 1 := ⟨f - 1, by simp at hf; omega⟩
    rw [r15_Check_l19_eq, decide_eq_true (idx hl hi hn), tif_true, at_mid hl hi, obind_some]
    rw [show (decide ((2 : Int) = 0)) = false from rfl, tif_false, show (decide ((2 : Int) = 1)) = false from rfl, tif_false, show (decide ((2 : Int) = 2)) = true from rfl, tif_true]
    simp only [tif_dec, if_neg (show ¬ (c.2.1.2.2 = 0) by omega), hq, idxw hl hi (show l.length ≤ 1000000000000 by omega)]
    have ih' := ih (pre ++ [x]) f (ix + 1) len (idxl hl) (idxs hi) hn (by simp at hf; omega)
    by_cases h1 : at_ ≤ x.1
    · rw [if_pos h1]
      exact ⟨fun k => by have := k x (by simp); omega, fun _ => rfl⟩
    · rw [if_neg h1]
      exact ⟨fun k => ih'.1 fun y hy => k y (by simp [hy]), fun k => ih'.2 fun q => k fun y hy => by
        rcases List.mem_cons.1 hy with rfl | hy
        · omega
        · exact q y hy⟩
theorem r15_l16_3 (n f : Nat) (c : Conf) (s : Ser) : r15_Check_l16 n (f + 1) (c, s, (3 : Int), ()) = some (.inl ()) := by
  rw [r15_Check_l16_eq, show (decide ((3 : Int) < 3)) = false from rfl, tif_false]
theorem r15_l16 (n f : Nat) (c : Conf) {s : Ser} (h : FoldOk c s.2.2.2.1) {e : Ev} (he : EvOk e) (hes : e.1 = s.2.1) : r15_Check_l16 (n + 1) (f + 4) (c, s, (0 : Int), ()) =
    some (if NoBehind s.2.2.2.1.1 (s.2.1 / c.2.1.1) ∧ NoBehind s.2.2.2.1.2.1 (s.2.1 / c.2.1.2.1) ∧ NoBehind s.2.2.2.1.2.2 (s.2.1 / c.2.1.2.2) then .inl () else .inr 2) := by
  have n0 := noBehind_iff h.t0 (s.2.1 / c.2.1.1); have n1 := noBehind_iff h.t1 (s.2.1 / c.2.1.2.1); have n2 := noBehind_iff h.t2 (s.2.1 / c.2.1.2.2)
  have hg := h.cok.rng
  have q0 := quo_ev he hg.w0.1; have q1 := quo_ev he hg.w1.1; have q2 := quo_ev he hg.w2.1
  rw [hes] at q0 q1 q2
  obtain ⟨l0, l1, l2⟩ := h.lens
  have t0 := tall_len (l := s.2.2.2.1.1); have t1 := tall_len (l := s.2.2.2.1.2.1); have t2 := tall_len (l := s.2.2.2.1.2.2)
  have k0 := r15_l19_0 (n + 1) c s _ hg.w0.1 q0 (tall s.2.2.2.1.1) (by omega) (tall s.2.2.2.1.1) [] loopFuel 0 ((tall s.2.2.2.1.1).length : Int) rfl rfl rfl (by unfold loopFuel; omega)
  have k1 := r15_l19_1 (n + 1) c s _ hg.w1.1 q1 (tall s.2.2.2.1.2.1) (by omega) (tall s.2.2.2.1.2.1) [] loopFuel 0 ((tall s.2.2.2.1.2.1).length : Int) rfl rfl rfl (by unfold loopFuel; omega)
  have k2 := r15_l19_2 (n + 1) c s _ hg.w2.1 q2 (tall s.2.2.2.1.2.2) (by omega) (tall s.2.2.2.1.2.2) [] loopFuel 0 ((tall s.2.2.2.1.2.2).length : Int) rfl rfl rfl (by unfold loopFuel; omega)
  rw [← n0] at k0; rw [← n1] at k1; rw [← n2] at k2
  rw [r15_Check_l16_eq, show (decide ((0 : Int) < 3)) = true from rfl, tif_true, show (decide ((0 : Int) = 0)) = true from rfl, tif_true, r13_all n h.t0, obind_some]
  by_cases c0 : NoBehind s.2.2.2.1.1 (s.2.1 / c.2.1.1)
  case neg => rw [k0.2 c0, if_neg (fun k => c0 k.1)]; rfl
  rw [k0.1 c0]
  simp only [obind_some, selim_inl]
  rw [show IntKind.wrap .i64 ((0 : Int) + 1) = 1 from rfl, r15_Check_l16_eq, show (decide ((1 : Int) < 3)) = true from rfl, tif_true, show (decide ((1 : Int) = 0)) = false from rfl, tif_false, show (decide ((1 : Int) = 1)) = true from rfl, tif_true, r13_all n h.t1, obind_some]
  by_cases c1 : NoBehind s.2.2.2.1.2.1 (s.2.1 / c.2.1.2.1)
  case neg => rw [k1.2 c1, if_neg (fun k => c1 k.2.1)]; rfl
  rw [k1.1 c1]
  simp only [obind_some, selim_inl]
  rw [show IntKind.wrap .i64 ((1 : Int) + 1) = 2 from rfl, r15_Check_l16_eq, show (decide ((2 : Int) < 3)) = true from rfl, tif_true, show (decide ((2 : Int) = 0)) = false from rfl, tif_false, show (decide ((2 : Int) = 1)) = false from rfl, tif_false, show (decide ((2 : Int) = 2)) = true from rfl, tif_true, r13_all n h.t2, obind_some]
  by_cases c2 : NoBehind s.2.2.2.1.2.2 (s.2.1 / c.2.1.2.2)
  case neg => rw [k2.2 c2, if_neg (fun k => c2 k.2.2)]; rfl
  rw [k2.1 c2]
  simp only [obind_some, selim_inl]
  rw [show IntKind.wrap .i64 ((2 : Int) + 1) = 3 from rfl, r15_l16_3, if_pos ⟨c0, c1, c2⟩]
theorem r15_check (n : Nat) (c : Conf) {s : Ser} (hw : SerW s) : r15_Check (n + 8) c s = some (if SerOk c s then 0 else 2) := by
  rw [r15_Check_eq, r10_check (n + 4), r05_check (n + 5), r12_check (n + 5) _ _ hw.raw, r14_check n c hw.trs]
  simp only [obind_some, tif_not, tif_dec, sloEq0]
  by_cases h0 : OkC c
  case neg => rw [if_neg (mt (z02 _).1 h0), if_neg (fun k : SerOk c s => h0 k.fold.cok)]
  by_cases h2 : LabOk s.1
  case neg => rw [if_pos ((z02 _).2 h0), if_neg (mt (z08 _).1 h2), if_neg (fun k : SerOk c s => h2 k.lab)]
  by_cases h3 : RawOk s.2.2.1 c.1
  case neg => rw [if_pos ((z02 _).2 h0), if_pos ((z08 _).2 h2), if_neg (mt (z02 _).1 h3), if_neg (fun k : SerOk c s => h3 k.raw)]
  by_cases h1 : FoldOk c s.2.2.2.1
  case neg => rw [if_pos ((z02 _).2 h0), if_pos ((z08 _).2 h2), if_pos ((z02 _).2 h3), if_neg (mt (z02 _).1 h1), if_neg (fun k : SerOk c s => h1 k.fold)]
  have hlen := h3.len; have hm1 := h3.m1
  rw [if_pos ((z02 _).2 h0), if_pos ((z08 _).2 h2), if_pos ((z02 _).2 h3), if_pos ((z02 _).2 h1), show loopFuel = (2 ^ 70 - 4) + 4 from by decide, r15_l7 (n + 6) _ c h1, r12_last _ _ (by omega), r13_fits (n + 2) hw.opn.c]
  by_cases h4 : s.2.1 = -1
  · rw [if_pos h4]
    by_cases h5 : (0 : Int) < s.2.2.1.2.2.length
    · rw [if_pos h5, if_neg (fun k : SerOk c s => by
        rcases k.st with q | q
        · rw [q.2.raw] at h5; simp at h5
        · exact q.1 h4)]
    rw [if_neg h5]
    by_cases h6 : s.2.2.2.2 = s0
    case neg => rw [if_neg h6, if_neg (fun k : SerOk c s => by
        rcases k.st with q | q
        · exact h6 q.2.opn
        · exact q.1 h4)]
    rw [if_pos h6, obind_some]
    by_cases h7 : NoBehind s.2.2.2.1.1 0 ∧ NoBehind s.2.2.2.1.2.1 0 ∧ NoBehind s.2.2.2.1.2.2 0
    · rw [if_pos h7, if_pos (⟨h1, h2, h3, .inl ⟨h4, ⟨List.length_eq_zero_iff.1 (by omega), h6, h7.1, h7.2.1, h7.2.2⟩⟩⟩ : SerOk c s)]; rfl
    · rw [if_neg h7, if_neg (fun k : SerOk c s => by
        rcases k.st with q | q
        · exact h7 ⟨q.2.b0, q.2.b1, q.2.b2⟩
        · exact q.1 h4)]; rfl
  · rw [if_neg h4]
    have no : ∀ {p : Prop}, (EndsP c s → p) → ¬ p → (if SerOk c s then (0 : Int) else 2) = 2 := fun hp hn => if_neg (fun k : SerOk c s => by
      rcases k.st with q | q
      · exact h4 q.1
      · exact hn (hp q.2))
    cases hl : s.2.2.1.2.2.getLast? with
    | none =>
      simp only [obind_some]
      rw [if_neg (by decide), no (fun k => k.last) (fun ⟨e, he, _⟩ => by rw [hl] at he; cases he)]
    | some e =>
      have heo := last_ok h3 hl
      simp only [obind_some, if_true, tif_dec]
      by_cases h5 : e.1 = s.2.1
      case neg => rw [if_neg h5, no (fun k => k.last) (fun ⟨e', he, hq⟩ => by rw [hl] at he; injection he with he; subst he; exact h5 hq)]
      rw [if_pos h5]
      by_cases h6 : FitsP s.2.2.2.2.2 c.2.1.1 s.2.2.2.2.1
      case neg => rw [if_neg h6, no (fun k => k.fit) h6]
      rw [if_pos h6]
      by_cases h7 : s.2.2.2.2.2.2.2.1.1 = s.2.1
      case neg => rw [if_neg h7, no (fun k => k.ol) h7]
      rw [if_pos h7, r15_l16 (n + 6) _ c h1 heo h5, obind_some]
      by_cases h8 : NoBehind s.2.2.2.1.1 (s.2.1 / c.2.1.1) ∧ NoBehind s.2.2.2.1.2.1 (s.2.1 / c.2.1.2.1) ∧ NoBehind s.2.2.2.1.2.2 (s.2.1 / c.2.1.2.2)
      · rw [if_pos h8, if_pos (⟨h1, h2, h3, .inr ⟨h4, ⟨⟨e, hl, h5⟩, h7, h6, h8.1, h8.2.1, h8.2.2⟩⟩⟩ : SerOk c s)]; rfl
      · rw [if_neg h8, no (fun k => And.intro k.b0 (And.intro k.b1 k.b2)) h8]; rfl
end Go.Proofs.YthjnbidgliejkaaGreat
