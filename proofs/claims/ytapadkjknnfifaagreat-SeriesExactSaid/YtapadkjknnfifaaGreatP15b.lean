/-
  Series, second part: one more event is put.
-/
import Derived.Test.YtapadkjknnfifaaGreatP15
namespace Go.Proofs.YtapadkjknnfifaaGreat
open Go.Flat Go.Plim
set_option linter.unusedVariables false
set_option linter.unusedSimpArgs false
/-! ### the document's cell with one more event -/
theorem nn {α : Type} {a b : α} (h : a = b) : ¬ (a ≠ b) := fun k => k h
/-! ### put -/
def ser0 : Ser := ([], (0, (r0w, (([], ([], [])), s0))))
/-- is another window open? -/
def TurnS (s : Ser) (i : Int) : Prop := s.2.2.2.2 ≠ s0 ∧ s.2.2.2.2.1 ≠ i
noncomputable instance (s i) : Decidable (TurnS s i) := Classical.propDecidable _
noncomputable def turned (c : Conf) (s : Ser) (i : Int) : (Trs × Slo) × Int :=
  if TurnS s i then (if (closeE c s.2.2.2.1 s.2.2.2.2 i).2 = 0 then (((closeE c s.2.2.2.1 s.2.2.2.2 i).1, s0), 0) else ((s.2.2.2.1, s.2.2.2.2), (closeE c s.2.2.2.1 s.2.2.2.2 i).2)) else ((s.2.2.2.1, s.2.2.2.2), 0)
noncomputable def putE (c : Conf) (s : Ser) (e : Ev) : Ser × Int :=
  if SerOk c s ∧ EvOk e then
    (if e.1 ≤ s.2.1 then (ser0, 9)
     else if (turned c s (e.1 / c.2.1.1)).2 ≠ 0 then (ser0, (turned c s (e.1 / c.2.1.1)).2)
     else if (rawPut s.2.2.1 c.1 e).2 ≠ 0 then (ser0, (rawPut s.2.2.1 c.1 e).2)
     else if (mrgE (turned c s (e.1 / c.2.1.1)).1.2.2 (evCell e)).2 ≠ 0 then (ser0, (mrgE (turned c s (e.1 / c.2.1.1)).1.2.2 (evCell e)).2)
     else ((s.1, (e.1, ((rawPut s.2.2.1 c.1 e).1, ((turned c s (e.1 / c.2.1.1)).1.1, (e.1 / c.2.1.1, (mrgE (turned c s (e.1 / c.2.1.1)).1.2.2 (evCell e)).1))))), 0))
  else (ser0, 2)
theorem open_zero {c : Conf} {s : Ser} (h : SerOk c s) : s.2.2.2.2.2.1 = 0 ↔ s.2.2.2.2 = s0 := by
  constructor
  · intro k
    rcases h.st with q | q
    · exact q.2.opn
    · have := q.2.fit.n.n1; omega
  · intro k; rw [k]; rfl
theorem turned_w {c : Conf} {s : Ser} (hw : SerW s) (i : Int) : SloW (turned c s i).1.2 := by
  unfold turned
  split
  · split
    · exact slow_s0
    · exact hw.opn
  · exact hw.opn
theorem kept_turn (n : Nat) (c : Conf) {s : Ser} (h : SerOk c s) (hw : SerW s) (i : Int) : series_kept_turn (n + 22) (c, s) i = some ((turned c s i).2, (c, (s.1, (s.2.1, (s.2.2.1, (turned c s i).1))))) := by
  rw [series_kept_turn_eq]
  simp only [tif_dec, fold_close n c hw.trs hw.opn i, obind_some]
  unfold turned
  by_cases h1 : s.2.2.2.2.1 = i
  · rw [if_pos h1, if_neg (fun k : TurnS s i => k.2 h1)]
  rw [if_neg h1]
  by_cases h2 : s.2.2.2.2.2.1 = 0
  · rw [if_pos h2, if_neg (fun k : TurnS s i => k.1 ((open_zero h).1 h2))]
  have ht : TurnS s i := ⟨fun k => h2 ((open_zero h).2 k), h1⟩
  rw [if_neg h2, if_pos ht]
  by_cases h3 : (closeE c s.2.2.2.1 s.2.2.2.2 i).2 = 0
  · rw [if_pos h3, if_pos h3, h3]; rfl
  · rw [if_neg h3, if_neg h3]
theorem series_put (n : Nat) (c : Conf) {s : Ser} (hw : SerW s) {e : Ev} (he : EvW e) : series_Put (n + 23) c s e = some (putE c s e) := by
  rw [series_Put_eq, series_open_val (n + 12) c hw, event_check _ he]
  unfold putE
  by_cases h1 : SerOk c s
  case neg => rw [if_neg h1, if_neg (fun k : SerOk c s ∧ EvOk e => h1 k.1)]; rfl
  rw [if_pos h1]
  have hg := h1.fold.cok.rng
  simp only [obind_some, oelim_some, decide_true, Bool.not_true, tif_false, tif_not, tif_dec]
  by_cases h2 : EvOk e
  case neg => rw [if_neg (mt (z02 _).1 h2), if_neg (fun k : SerOk c s ∧ EvOk e => h2 k.2)]; rfl
  rw [if_pos ((z02 _).2 h2), if_pos (And.intro h1 h2)]
  by_cases h3 : e.1 ≤ s.2.1
  · rw [if_pos h3, if_pos h3]; rfl
  rw [if_neg h3, if_neg h3, if_neg (show ¬ (c.2.1.1 = 0) by have := hg.w0; omega), quo_ev h2 hg.w0.1, kept_turn n c h1 hw]
  generalize ht : turned c s (e.1 / c.2.1.1) = t
  have htw := turned_w (c := c) hw (e.1 / c.2.1.1)
  rw [ht] at htw
  simp only [obind_some]
  by_cases h4 : t.2 = 0
  case neg => rw [if_neg h4, if_pos h4]; rfl
  rw [if_pos h4, if_neg (nn h4), series_kept_add_eq, raw_put (n + 15) c.1 hw.raw he, cell_add (n + 14) htw.c he, if_pos h2]
  simp only [obind_some, tif_not, tif_dec]
  by_cases h5 : (rawPut s.2.2.1 c.1 e).2 = 0
  case neg =>
    rw [if_neg h5, if_pos h5]
    simp only [obind_some]
    rw [if_neg h5]; rfl
  rw [if_pos h5, if_neg (nn h5)]
  simp only [obind_some]
  by_cases h6 : (mrgE t.1.2.2 (evCell e)).2 = 0
  · rw [if_pos h6, if_neg (nn h6)]; simp only [if_true]
  · rw [if_neg h6, if_pos h6]; rfl
end Go.Proofs.YtapadkjknnfifaaGreat
