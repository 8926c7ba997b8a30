/-
  Three tiers: what the program and the document make of them, as plain functions.
-/
import Derived.Test.YtapadkjknnfifaaGreatP13c
import Derived.Test.YtapadkjknnfifaaGreatM14
namespace Go.Proofs.YtapadkjknnfifaaGreat
open Go.Flat Go.Plim
set_option linter.unusedVariables false
set_option linter.unusedSimpArgs false
/-- slots of three tiers, as wide as their types -/
structure TrsW (s : Trs) : Prop where
  a : ∀ x ∈ s.1, SloW x
  b : ∀ x ∈ s.2.1, SloW x
  c : ∀ x ∈ s.2.2, SloW x
theorem FoldOk.w {c : Conf} {s : Trs} (h : FoldOk c s) : TrsW s := ⟨tierOk_w h.t0, tierOk_w h.t1, tierOk_w h.t2⟩
theorem conf_check (n : Nat) (c : Conf) : conf_Check (n + 3) c = some (if OkC c then 0 else 2) := by
  by_cases h : OkC c
  · rw [if_pos h, check_ok n h]
  · rw [if_neg h, check_no n h]
theorem r10_check (n : Nat) (c : Conf) : r10_Check (n + 3) c = some (if OkC c then 0 else 2) := by
  by_cases h : OkC c
  · rw [if_pos h, r10_check_ok n h]
  · rw [if_neg h, r10_check_no n h]
/-- empty tiers -/
noncomputable def emp (c : Conf) : Trs := if OkC c then (List.replicate c.2.2.1.1.toNat s0, (List.replicate c.2.2.1.2.1.toNat s0, List.replicate c.2.2.1.2.2.toNat s0)) else ([], ([], []))
theorem fold_empty (n : Nat) (c : Conf) : fold_Empty (n + 4) c = some (emp c) := by
  rw [fold_Empty_eq, conf_check n]
  simp only [obind_some, tif_not, tif_dec, tier_new]
  unfold emp
  by_cases h : OkC c
  · have h0 := h.rng.n0; have h1 := h.rng.n1; have h2 := h.rng.n2
    rw [if_pos ((z02 _).2 h), if_pos h, if_pos h0, if_pos h1, if_pos h2]
  · rw [if_neg (mt (z02 _).1 h), if_neg h]
theorem r14_empty (n : Nat) (c : Conf) : r14_Empty (n + 4) c = some (emp c) := by
  rw [r14_Empty_eq, r10_check n]
  simp only [obind_some, tif_not, tif_dec, r13_new]
  unfold emp
  by_cases h : OkC c
  · have h0 := h.rng.n0; have h1 := h.rng.n1; have h2 := h.rng.n2
    rw [if_pos ((z02 _).2 h), if_pos h, if_pos h0, if_pos h1, if_pos h2]
  · rw [if_neg (mt (z02 _).1 h), if_neg h]
/-! ### a window that is made -/
end Go.Proofs.YtapadkjknnfifaaGreat
