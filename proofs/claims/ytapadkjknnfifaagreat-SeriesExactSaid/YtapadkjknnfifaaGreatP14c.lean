/-
  Three tiers, third part: made, over, closed, asked from outside; the law FoldTells.
-/
import Derived.Test.YtapadkjknnfifaaGreatP14b
namespace Go.Proofs.YtapadkjknnfifaaGreat
open Go.Flat Go.Plim
set_option linter.unusedVariables false
set_option linter.unusedSimpArgs false
/-! ### asked from outside -/
noncomputable def closeE (c : Conf) (s : Trs) (was : Slo) (j : Int) : Trs × Int :=
  if FoldOk c s then
    (if was = s0 then (s, 0)
     else if FitsP was.2 c.2.1.1 was.1 then
      (if was.1 = j then (s, 0) else if was.1 ≤ j ∧ Begins c.2.1.1 j then (upw c (tput s.1 was.1 was.2, s.2) was.1 j, 0) else (([], ([], [])), 1))
     else (([], ([], [])), 2))
  else (([], ([], [])), 2)
theorem foldOk_put0 {c : Conf} {s : Trs} (h : FoldOk c s) {i : Int} {x : Cel} (hf : FitsP x c.2.1.1 i) : FoldOk c (tput s.1 i x, s.2) :=
  ⟨h.cok, by simpa [tput] using h.n0, h.n1, h.n2, tput_ok h.t0 hf, h.t1, h.t2⟩
theorem fold_close (n : Nat) (c : Conf) {s : Trs} (hw : TrsW s) {was : Slo} (hx : SloW was) (j : Int) : fold_Close (n + 21) c s was j = some (closeE c s was j) := by
  rw [fold_Close_eq, fold_open_val (n + 12) c hw]
  unfold closeE
  by_cases h : FoldOk c s
  case neg => rw [if_neg h, if_neg h]; rfl
  have hr := h.cok.rng
  rw [if_pos h, if_pos h]
  simp only [obind_some, oelim_some, decide_true, Bool.not_true, tif_false, sloEq0, tif_not, tif_dec, if_true, tier_fits (n + 14) hx.c]
  by_cases c1 : was = s0
  · rw [if_pos c1, if_pos c1, if_pos c1]
  rw [if_neg c1, if_neg c1, if_neg c1]
  by_cases c2 : FitsP was.2 c.2.1.1 was.1
  case neg => rw [if_neg c2, if_neg c2]
  rw [if_pos c2, if_pos c2]
  by_cases c3 : was.1 = j
  · rw [if_pos c3, if_pos c3]
  rw [if_neg c3, if_neg c3]
  by_cases c4 : j < was.1
  · rw [if_pos c4, if_neg (fun q => by omega)]
  rw [if_neg c4, begins_0 (n + 19) c s hr.w0.1 j]
  simp only [obind_some, tif_not, tif_dec]
  by_cases hb : Begins c.2.1.1 j
  · have hi := c2.i0
    rw [if_pos hb, if_pos ⟨by omega, hb⟩, fold_put0 (n + 11) h was.1 hx.c, if_pos c2]
    simp only [obind_some, if_true, fold_up n (foldOk_put0 h c2) hi.1 (show was.1 ≤ j by omega) hb]
  · rw [if_neg hb, if_neg (fun q => hb q.2)]
/-! ### equal -/
theorem FoldOk.lens {c : Conf} {s : Trs} (h : FoldOk c s) : s.1.length ≤ 1000000 ∧ s.2.1.length ≤ 1000000 ∧ s.2.2.length ≤ 1000000 := by
  have := h.t0.l1; have := h.t1.l1; have := h.t2.l1; omega
end Go.Proofs.YtapadkjknnfifaaGreat
