/-
  Three tiers: what the program and the document make of them, as plain functions.
-/
import Derived.Test.YthjnbidgliejkaaGreatP13c
import Derived.Test.YthjnbidgliejkaaGreatM14
namespace Go.Proofs.YthjnbidgliejkaaGreat
open Go.Flat Go.Plim
set_option linter.unusedVariables false
set_option linter.unusedSimpArgs false
/-- slots of three tiers, as wide as their types -/
structure TrsW (s : Trs) : Prop where
  a : ∀ x ∈ s.1, SloW x
  b : ∀ x ∈ s.2.1, SloW x
  c : ∀ x ∈ s.2.2, SloW x
theorem FoldOk.w {c : Conf} {s : Trs} (h : FoldOk c s) : TrsW s := ⟨tierOk_w h.t0, tierOk_w h.t1, tierOk_w h.t2⟩
theorem conf_check (n : Nat) (c : Conf) : conf_Check (n + 3) c = some (if OkC c then 0 else 2) := by
  by_cases h : OkC c
  · rw [if_pos h, check_ok n h]
  · rw [if_neg h, check_no n h]
theorem r10_check (n : Nat) (c : Conf) : r10_Check (n + 3) c = some (if OkC c then 0 else 2) := by
  by_cases h : OkC c
  · rw [if_pos h, r10_check_ok n h]
  · rw [if_neg h, r10_check_no n h]
theorem fold_open_val (n : Nat) (c : Conf) {s : Trs} (hw : TrsW s) : fold_open (n + 8) c s = some (if FoldOk c s then (some (c, s), 0) else (none, 2)) := by
  rw [fold_open_eq, conf_check (n + 4), tier_check n _ _ hw.a, tier_check n _ _ hw.b, tier_check n _ _ hw.c]
  simp only [obind_some, tif_not, tif_dec]
  by_cases h0 : OkC c
  case neg => rw [if_neg (mt (z02 _).1 h0), if_neg h0, if_neg (fun k : FoldOk c s => h0 k.cok)]
  rw [if_pos ((z02 _).2 h0)]
  by_cases h1 : (s.1.length : Int) = c.2.2.1.1
  case neg => rw [if_neg h1, if_neg (fun k : FoldOk c s => h1 k.n0)]
  rw [if_pos h1]
  by_cases h2 : TierOk s.1 c.2.1.1
  case neg => rw [if_neg (mt (z02 _).1 h2), if_neg (fun k : FoldOk c s => h2 k.t0)]
  rw [if_pos ((z02 _).2 h2)]
  by_cases h3 : (s.2.1.length : Int) = c.2.2.1.2.1
  case neg => rw [if_neg h3, if_neg (fun k : FoldOk c s => h3 k.n1)]
  rw [if_pos h3]
  by_cases h4 : TierOk s.2.1 c.2.1.2.1
  case neg => rw [if_neg (mt (z02 _).1 h4), if_neg (fun k : FoldOk c s => h4 k.t1)]
  rw [if_pos ((z02 _).2 h4)]
  by_cases h5 : (s.2.2.length : Int) = c.2.2.1.2.2
  case neg => rw [if_neg h5, if_neg (fun k : FoldOk c s => h5 k.n2)]
  rw [if_pos h5]
  by_cases h6 : TierOk s.2.2 c.2.1.2.2
  case neg => rw [if_neg (mt (z02 _).1 h6), if_neg (fun k : FoldOk c s => h6 k.t2)]
  rw [if_pos ((z02 _).2 h6), if_pos (⟨h0, h1, h3, h5, h2, h4, h6⟩ : FoldOk c s)]
theorem r14_check (n : Nat) (c : Conf) {s : Trs} (hw : TrsW s) : r14_Check (n + 7) c s = some (if FoldOk c s then 0 else 2) := by
  rw [r14_Check_eq, r10_check (n + 3), r13_check n _ _ hw.a, r13_check n _ _ hw.b, r13_check n _ _ hw.c]
  simp only [obind_some, tif_not, tif_dec]
  by_cases h0 : OkC c
  case neg => rw [if_neg (mt (z02 _).1 h0), if_neg (fun k : FoldOk c s => h0 k.cok)]
  rw [if_pos ((z02 _).2 h0)]
  by_cases h1 : (s.1.length : Int) = c.2.2.1.1
  case neg => rw [if_neg h1, if_neg (fun k : FoldOk c s => h1 k.n0)]
  rw [if_pos h1]
  by_cases h2 : TierOk s.1 c.2.1.1
  case neg => rw [if_neg (mt (z02 _).1 h2), if_neg (fun k : FoldOk c s => h2 k.t0)]
  rw [if_pos ((z02 _).2 h2)]
  by_cases h3 : (s.2.1.length : Int) = c.2.2.1.2.1
  case neg => rw [if_neg h3, if_neg (fun k : FoldOk c s => h3 k.n1)]
  rw [if_pos h3]
  by_cases h4 : TierOk s.2.1 c.2.1.2.1
  case neg => rw [if_neg (mt (z02 _).1 h4), if_neg (fun k : FoldOk c s => h4 k.t1)]
  rw [if_pos ((z02 _).2 h4)]
  by_cases h5 : (s.2.2.length : Int) = c.2.2.1.2.2
  case neg => rw [if_neg h5, if_neg (fun k : FoldOk c s => h5 k.n2)]
  rw [if_pos h5]
  by_cases h6 : TierOk s.2.2 c.2.1.2.2
  case neg => rw [if_neg (mt (z02 _).1 h6), if_neg (fun k : FoldOk c s => h6 k.t2)]
  rw [if_pos ((z02 _).2 h6), if_pos (⟨h0, h1, h3, h5, h2, h4, h6⟩ : FoldOk c s)]
theorem fold_check (n : Nat) (c : Conf) {s : Trs} (hw : TrsW s) : fold_Check (n + 9) c s = some (if FoldOk c s then 0 else 2) := by
  rw [fold_Check_eq, fold_open_val n c hw]
  by_cases h : FoldOk c s
  · rw [if_pos h, if_pos h]; rfl
  · rw [if_neg h, if_neg h]; rfl
/-! ### a window that is made -/
end Go.Proofs.YthjnbidgliejkaaGreat
