/-
  Plain proofs about the functions of this seat, part 2 of 2.
-/
import Derived.Test.YthjnbidgliejkaaGreatQ1
import Derived.Test.YthjnbidgliejkaaGreatTr
import Derived.Test.YthjnbidgliejkaaGreatFlatM3
namespace Go.Proofs.YthjnbidgliejkaaGreat
open Go.Flat Go.Plim
set_option linter.unusedVariables false
abbrev Trs := List Slo × (List Slo × List Slo)
noncomputable instance (c : Conf) : Decidable (OkC c) := Classical.propDecidable _
/-- tiers that are right for a configuration -/
structure FoldOk (c : Conf) (s : Trs) : Prop where
  cok : OkC c
  n0 : (s.1.length : Int) = c.2.2.1.1
  n1 : (s.2.1.length : Int) = c.2.2.1.2.1
  n2 : (s.2.2.length : Int) = c.2.2.1.2.2
  t0 : TierOk s.1 c.2.1.1
  t1 : TierOk s.2.1 c.2.1.2.1
  t2 : TierOk s.2.2 c.2.1.2.2
noncomputable instance (c : Conf) (s : Trs) : Decidable (FoldOk c s) := Classical.propDecidable _
/-- a window of the second tier, and of the third one, made of those below -/
def mk1 (c : Conf) (s : Trs) (i : Int) : Cel × Int := tfold s.1 (i * (c.2.1.2.1 / c.2.1.1)) ((i + 1) * (c.2.1.2.1 / c.2.1.1))
def mk2 (c : Conf) (s : Trs) (i : Int) : Cel × Int := tfold s.2.1 (i * (c.2.1.2.2 / c.2.1.2.1)) ((i + 1) * (c.2.1.2.2 / c.2.1.2.1))
noncomputable def up1 (c : Conf) (s : Trs) (i j : Int) : Trs :=
  if i * c.2.1.1 / c.2.1.2.1 = j * c.2.1.1 / c.2.1.2.1 then s
  else if (mk1 c s (i * c.2.1.1 / c.2.1.2.1)).2 = 0 ∧ FitsP (mk1 c s (i * c.2.1.1 / c.2.1.2.1)).1 c.2.1.2.1 (i * c.2.1.1 / c.2.1.2.1) then (s.1, (tput s.2.1 (i * c.2.1.1 / c.2.1.2.1) (mk1 c s (i * c.2.1.1 / c.2.1.2.1)).1, s.2.2))
  else s
noncomputable def up2 (c : Conf) (s : Trs) (i j : Int) : Trs :=
  if i * c.2.1.1 / c.2.1.2.2 = j * c.2.1.1 / c.2.1.2.2 then s
  else if (mk2 c s (i * c.2.1.1 / c.2.1.2.2)).2 = 0 ∧ FitsP (mk2 c s (i * c.2.1.1 / c.2.1.2.2)).1 c.2.1.2.2 (i * c.2.1.1 / c.2.1.2.2) then (s.1, (s.2.1, tput s.2.2 (i * c.2.1.1 / c.2.1.2.2) (mk2 c s (i * c.2.1.1 / c.2.1.2.2)).1))
  else s
noncomputable def upw (c : Conf) (s : Trs) (i j : Int) : Trs := up2 c (up1 c s i j) i j
theorem up1_ok {c : Conf} {s : Trs} (h : FoldOk c s) (i j : Int) : FoldOk c (up1 c s i j) := by
  unfold up1
  split
  · exact h
  · split
    · rename_i k
      exact ⟨h.cok, h.n0, by simpa [tput] using h.n1, h.n2, h.t0, tput_ok h.t1 k.2, h.t2⟩
    · exact h
theorem up2_ok {c : Conf} {s : Trs} (h : FoldOk c s) (i j : Int) : FoldOk c (up2 c s i j) := by
  unfold up2
  split
  · exact h
  · split
    · rename_i k
      exact ⟨h.cok, h.n0, h.n1, by simpa [tput] using h.n2, h.t0, h.t1, tput_ok h.t2 k.2⟩
    · exact h
theorem upw_ok {c : Conf} {s : Trs} (h : FoldOk c s) (i j : Int) : FoldOk c (upw c s i j) := up2_ok (up1_ok h i j) i j
/-! ### numbers that need no wrap -/
theorem mul_div_le {a w m : Int} (hw : 1 ≤ w) (h : a ≤ m / w) : a * w ≤ m :=
  Int.le_trans (Int.mul_le_mul_of_nonneg_right h (by omega)) (Int.ediv_mul_le m (by omega))
/-- a window that begins in time -/
def Begins (w i : Int) : Prop := 0 ≤ i ∧ i ≤ 35184372088831 / w
instance (w i : Int) : Decidable (Begins w i) := by unfold Begins; infer_instance
theorem Begins.mul {w i : Int} (hw : 1 ≤ w) (h : Begins w i) : 0 ≤ i * w ∧ i * w ≤ 35184372088831 := ⟨Int.mul_nonneg h.1 (by omega), mul_div_le hw h.2⟩
theorem div_begins {x w : Int} (hw : 1 ≤ w) (h : 0 ≤ x ∧ x ≤ 35184372088831) : Begins w (x / w) := ⟨Int.ediv_nonneg h.1 (by omega), Int.ediv_le_ediv (by omega) h.2⟩
theorem begins_small {w i : Int} (hw : 1 ≤ w) (h : Begins w i) : i ≤ 35184372088831 := by
  have := Int.ediv_le_self w (a := 35184372088831) (by decide)
  have := h.2
  omega
/-- a window's ends, as windows of the tier below -/
theorem made_range {a b i : Int} (ha : 1 ≤ a ∧ a ≤ 1099511627776) (hb : 1 ≤ b ∧ b ≤ 1099511627776) (hm : b % a = 0) (h : Begins b i) :
    1 ≤ b / a ∧ b / a ≤ 1099511627776 ∧ b / a * a = b ∧ 0 ≤ i * (b / a) ∧ i * (b / a) ≤ 35184372088831 ∧ (i + 1) * (b / a) = i * (b / a) + b / a := by
  have e : b / a * a = b := by have := Int.mul_ediv_add_emod b a; rw [Int.mul_comm]; omega
  have h0 : 0 ≤ b / a := Int.ediv_nonneg (by omega) (by omega)
  have h1 : b / a ≤ b := Int.ediv_le_self _ (by omega)
  have h2 : 1 ≤ b / a := by
    rcases Int.lt_or_le 0 (b / a) with k | k
    · omega
    · have : b / a = 0 := by omega
      rw [this] at e; omega
  have hi := h.mul hb.1
  have h3 : 0 ≤ i * (b / a) := Int.mul_nonneg h.1 h0
  have h4 : i * (b / a) ≤ i * b := Int.mul_le_mul_of_nonneg_left h1 h.1
  exact ⟨h2, by omega, e, h3, by omega, by rw [Int.add_mul, Int.one_mul]⟩
end Go.Proofs.YthjnbidgliejkaaGreat

namespace Go.Proofs.YthjnbidgliejkaaGreat
open Go.Flat Go.Plim
set_option linter.unusedVariables false
set_option linter.unusedSimpArgs false
/-- slots of three tiers, as wide as their types -/
structure TrsW (s : Trs) : Prop where
  a : ∀ x ∈ s.1, SloW x
  b : ∀ x ∈ s.2.1, SloW x
  c : ∀ x ∈ s.2.2, SloW x
theorem FoldOk.w {c : Conf} {s : Trs} (h : FoldOk c s) : TrsW s := ⟨tierOk_w h.t0, tierOk_w h.t1, tierOk_w h.t2⟩
theorem conf_check (n : Nat) (c : Conf) : conf_Check (n + 3) c = some (if OkC c then 0 else 2) := by
  by_cases h : OkC c
  · rw [if_pos h, check_ok n h]
  · rw [if_neg h, check_no n h]
theorem fold_open_val (n : Nat) (c : Conf) {s : Trs} (hw : TrsW s) : fold_open (n + 8) c s = some (if FoldOk c s then (some (c, s), 0) else (none, 2)) := by
  rw [fold_open_eq, conf_check (n + 4), tier_check n _ _ hw.a, tier_check n _ _ hw.b, tier_check n _ _ hw.c]
  simp only [obind_some, tif_not, tif_dec]
  by_cases h0 : OkC c
  case neg => rw [if_neg (mt (z02 _).1 h0), if_neg h0, if_neg (fun k : FoldOk c s => h0 k.cok)]
  rw [if_pos ((z02 _).2 h0)]
  by_cases h1 : (s.1.length : Int) = c.2.2.1.1
  case neg => rw [if_neg h1, if_neg (fun k : FoldOk c s => h1 k.n0)]
  rw [if_pos h1]
  by_cases h2 : TierOk s.1 c.2.1.1
  case neg => rw [if_neg (mt (z02 _).1 h2), if_neg (fun k : FoldOk c s => h2 k.t0)]
  rw [if_pos ((z02 _).2 h2)]
  by_cases h3 : (s.2.1.length : Int) = c.2.2.1.2.1
  case neg => rw [if_neg h3, if_neg (fun k : FoldOk c s => h3 k.n1)]
  rw [if_pos h3]
  by_cases h4 : TierOk s.2.1 c.2.1.2.1
  case neg => rw [if_neg (mt (z02 _).1 h4), if_neg (fun k : FoldOk c s => h4 k.t1)]
  rw [if_pos ((z02 _).2 h4)]
  by_cases h5 : (s.2.2.length : Int) = c.2.2.1.2.2
  case neg => rw [if_neg h5, if_neg (fun k : FoldOk c s => h5 k.n2)]
  rw [if_pos h5]
  by_cases h6 : TierOk s.2.2 c.2.1.2.2
  case neg => rw [if_neg (mt (z02 _).1 h6), if_neg (fun k : FoldOk c s => h6 k.t2)]
  rw [if_pos ((z02 _).2 h6), if_pos (⟨h0, h1, h3, h5, h2, h4, h6⟩ : FoldOk c s)]
theorem fold_check (n : Nat) (c : Conf) {s : Trs} (hw : TrsW s) : fold_Check (n + 9) c s = some (if FoldOk c s then 0 else 2) := by
  rw [fold_Check_eq, fold_open_val n c hw]
  by_cases h : FoldOk c s
  · rw [if_pos h, if_pos h]; rfl
  · rw [if_neg h, if_neg h]; rfl
/-- empty tiers -/
noncomputable def emp (c : Conf) : Trs := if OkC c then (List.replicate c.2.2.1.1.toNat s0, (List.replicate c.2.2.1.2.1.toNat s0, List.replicate c.2.2.1.2.2.toNat s0)) else ([], ([], []))
theorem fold_empty (n : Nat) (c : Conf) : fold_Empty (n + 4) c = some (emp c) := by
  rw [fold_Empty_eq, conf_check n]
  simp only [obind_some, tif_not, tif_dec, tier_new]
  unfold emp
  by_cases h : OkC c
  · have h0 := h.rng.n0; have h1 := h.rng.n1; have h2 := h.rng.n2
    rw [if_pos ((z02 _).2 h), if_pos h, if_pos h0, if_pos h1, if_pos h2]
  · rw [if_neg (mt (z02 _).1 h), if_neg h]
/-! ### a window that is made -/
theorem quo_top {w : Int} (hw : 1 ≤ w) : IntKind.wrap .i64 (Int.tdiv 35184372088831 w) = 35184372088831 / w := by
  have : 0 ≤ (35184372088831 : Int) / w := Int.ediv_nonneg (by decide) (by omega)
  have : (35184372088831 : Int) / w ≤ 35184372088831 := Int.ediv_le_self _ (by decide)
  rw [tdiv_nn (by decide), w64 (by omega) (by omega)]
theorem begins_0 (n : Nat) (c : Conf) (s : Trs) (h : 1 ≤ c.2.1.1) (i : Int) : fold_stack_begins (n + 1) (c, s) 0 i = some (decide (Begins c.2.1.1 i), (c, s)) := by
  rw [fold_stack_begins_eq_0]
  simp only [tif_dec, if_neg (show ¬ (c.2.1.1 = 0) by omega), quo_top h]
  by_cases h0 : (0 : Int) ≤ i
  · rw [if_pos h0]
    refine congrArg (fun b => some (b, (c, s))) (decide_eq_decide.2 ⟨fun k => ⟨h0, k⟩, fun k => k.2⟩)
  · rw [if_neg h0, decide_eq_false (fun k : Begins c.2.1.1 i => h0 k.1)]
end Go.Proofs.YthjnbidgliejkaaGreat

namespace Go.Proofs.YthjnbidgliejkaaGreat
open Go.Flat Go.Plim
set_option linter.unusedVariables false
set_option linter.unusedSimpArgs false
theorem allE_okc (l : List Cel) : ∀ c, CellOk c → CellOk (allE c l).1 := by
  induction l with
  | nil => intro c h; exact h
  | cons x l ih =>
    intro c h
    simp only [allE]
    split
    · rename_i k; exact ih _ (mrgE_ok k).2.2.2.2
    · exact ok_z0
theorem tfold_okc (l : List Slo) (i k : Int) : CellOk (tfold l i k).1 := by
  unfold tfold
  split
  · exact ok_z0
  · exact allE_okc _ _ ok_z0
theorem made_wraps {a b i : Int} (ha : 1 ≤ a ∧ a ≤ 1099511627776) (hb : 1 ≤ b ∧ b ≤ 1099511627776) (hm : b % a = 0) (h : Begins b i) :
    IntKind.wrap .i64 (i * (b / a)) = i * (b / a) ∧ IntKind.wrap .i64 ((IntKind.wrap .i64 (i + 1)) * (b / a)) = (i + 1) * (b / a) := by
  obtain ⟨h1, h2, h3, h4, h5, h6⟩ := made_range ha hb hm h
  have := begins_small hb.1 h
  have := h.1
  rw [w64 (x := i + 1) (by omega) (by omega), h6, w64 (by omega) (by omega), w64 (by omega) (by omega)]
  exact ⟨rfl, rfl⟩
theorem fold_made1 (n : Nat) {c : Conf} {s : Trs} (h : FoldOk c s) {i : Int} (hb : Begins c.2.1.2.1 i) : fold_stack_made (n + 19) (c, s) 1 i = some ((mk1 c s i).1, ((mk1 c s i).2, (c, s))) := by
  have hr := h.cok.rng
  obtain ⟨e1, e2⟩ := made_wraps hr.w0 hr.w1 h.cok.m1 hb
  rw [fold_stack_made_eq_1]
  simp only [tif_dec, if_neg (show ¬ (c.2.1.1 = 0) by have := hr.w0; omega), quo_w hr.w1 hr.w0.1, e1, e2, tier_fold n h.t0, obind_some]
  rfl
theorem fold_made2 (n : Nat) {c : Conf} {s : Trs} (h : FoldOk c s) {i : Int} (hb : Begins c.2.1.2.2 i) : fold_stack_made (n + 19) (c, s) 2 i = some ((mk2 c s i).1, ((mk2 c s i).2, (c, s))) := by
  have hr := h.cok.rng
  obtain ⟨e1, e2⟩ := made_wraps hr.w1 hr.w2 h.cok.m2 hb
  rw [fold_stack_made_eq_2]
  simp only [tif_dec, if_neg (show ¬ (c.2.1.2.1 = 0) by have := hr.w1; omega), quo_w hr.w2 hr.w1.1, e1, e2, tier_fold n h.t1, obind_some]
  rfl
/-! ### put -/
theorem fold_put0 (n : Nat) {c : Conf} {s : Trs} (h : FoldOk c s) (i : Int) {x : Cel} (hx : CelW x) : fold_stack_put (n + 9) (c, s) 0 i x = some (if FitsP x c.2.1.1 i then (0, (c, (tput s.1 i x, s.2))) else (2, (c, s))) := by
  rw [fold_stack_put_eq_0, tier_put n _ _ (tierOk_w h.t0) hx]
  simp only [obind_some, tif_dec]
  by_cases hf : FitsP x c.2.1.1 i
  · rw [if_pos (And.intro h.t0 hf), if_pos hf]; rfl
  · have hn : ¬ (TierOk s.1 c.2.1.1 ∧ FitsP x c.2.1.1 i) := fun k => hf k.2
    rw [if_neg hn, if_neg hf]; rfl
theorem fold_put1 (n : Nat) {c : Conf} {s : Trs} (h : FoldOk c s) (i : Int) {x : Cel} (hx : CelW x) : fold_stack_put (n + 9) (c, s) 1 i x = some (if FitsP x c.2.1.2.1 i then (0, (c, (s.1, (tput s.2.1 i x, s.2.2)))) else (2, (c, s))) := by
  rw [fold_stack_put_eq_1, tier_put n _ _ (tierOk_w h.t1) hx]
  simp only [obind_some, tif_dec]
  by_cases hf : FitsP x c.2.1.2.1 i
  · rw [if_pos (And.intro h.t1 hf), if_pos hf]; rfl
  · have hn : ¬ (TierOk s.2.1 c.2.1.2.1 ∧ FitsP x c.2.1.2.1 i) := fun k => hf k.2
    rw [if_neg hn, if_neg hf]; rfl
theorem fold_put2 (n : Nat) {c : Conf} {s : Trs} (h : FoldOk c s) (i : Int) {x : Cel} (hx : CelW x) : fold_stack_put (n + 9) (c, s) 2 i x = some (if FitsP x c.2.1.2.2 i then (0, (c, (s.1, (s.2.1, tput s.2.2 i x)))) else (2, (c, s))) := by
  rw [fold_stack_put_eq_2, tier_put n _ _ (tierOk_w h.t2) hx]
  simp only [obind_some, tif_dec]
  by_cases hf : FitsP x c.2.1.2.2 i
  · rw [if_pos (And.intro h.t2 hf), if_pos hf]; rfl
  · have hn : ¬ (TierOk s.2.2 c.2.1.2.2 ∧ FitsP x c.2.1.2.2 i) := fun k => hf k.2
    rw [if_neg hn, if_neg hf]; rfl
/-! ### windows that are over -/
theorem over_wraps {a w i j : Int} (ha : 1 ≤ a) (hw : 1 ≤ w) (h0 : 0 ≤ i) (hij : i ≤ j) (hj : Begins a j) :
    IntKind.wrap .i64 (Int.tdiv (IntKind.wrap .i64 (i * a)) w) = i * a / w ∧ Begins w (i * a / w) := by
  have hm := hj.mul ha
  have h1 : 0 ≤ i * a := Int.mul_nonneg h0 (by omega)
  have h2 : i * a ≤ j * a := Int.mul_le_mul_of_nonneg_right hij (by omega)
  have h3 : 0 ≤ i * a / w := Int.ediv_nonneg h1 (by omega)
  have h4 : i * a / w ≤ i * a := Int.ediv_le_self _ h1
  rw [w64 (x := i * a) (by omega) (by omega), tdiv_nn h1, w64 (by omega) (by omega)]
  exact ⟨rfl, div_begins hw ⟨h1, by omega⟩⟩
theorem stage2 (n : Nat) {c : Conf} {s : Trs} (h : FoldOk c s) {i j : Int} (h0 : 0 ≤ i) (hij : i ≤ j) (hj : Begins c.2.1.1 j) :
    (tif (decide (IntKind.wrap .i64 (Int.tdiv (IntKind.wrap .i64 (i * c.2.1.1)) c.2.1.2.2) = IntKind.wrap .i64 (Int.tdiv (IntKind.wrap .i64 (j * c.2.1.1)) c.2.1.2.2))) (some (c, s))
      (obind (fold_stack_made (n + 19) (c, s) (2 : Int) (IntKind.wrap .i64 (Int.tdiv (IntKind.wrap .i64 (i * c.2.1.1)) c.2.1.2.2))) fun r0 =>
        tif (decide (r0.2.1 = (0 : Int))) (tif (decide ((0 : Int) < r0.1.1)) (obind (fold_stack_put (n + 19) r0.2.2 (2 : Int) (IntKind.wrap .i64 (Int.tdiv (IntKind.wrap .i64 (i * c.2.1.1)) c.2.1.2.2)) r0.1) fun r1 => some r1.2) (some r0.2.2)) (some r0.2.2))) = some (c, up2 c s i j) := by
  have hr := h.cok.rng
  have hjj : 0 ≤ j := hj.1
  obtain ⟨e1, b1⟩ := over_wraps hr.w0.1 hr.w2.1 h0 hij hj
  obtain ⟨e2, _⟩ := over_wraps hr.w0.1 hr.w2.1 hjj (Int.le_refl j) hj
  rw [e1, e2, fold_made2 n h b1]
  simp only [obind_some, tif_dec]
  unfold up2
  by_cases c1 : i * c.2.1.1 / c.2.1.2.2 = j * c.2.1.1 / c.2.1.2.2
  · rw [if_pos c1, if_pos c1]
  rw [if_neg c1, if_neg c1]
  generalize i * c.2.1.1 / c.2.1.2.2 = a at *
  have hok : CellOk (mk2 c s a).1 := tfold_okc _ _ _
  by_cases c2 : (mk2 c s a).2 = 0
  · rw [if_pos c2]
    by_cases c3 : 0 < (mk2 c s a).1.1
    · rw [if_pos c3, fold_put2 (n + 10) h a (CelW.of hok)]
      by_cases c4 : FitsP (mk2 c s a).1 c.2.1.2.2 a
      · rw [if_pos c4, if_pos (And.intro c2 c4)]; rfl
      · rw [if_neg c4, if_neg (fun k => c4 k.2)]; rfl
    · rw [if_neg c3, if_neg (fun k => c3 (by have := k.2.n.n1; omega))]
  · rw [if_neg c2, if_neg (fun k => c2 k.1)]
theorem fold_up (n : Nat) {c : Conf} {s : Trs} (h : FoldOk c s) {i j : Int} (h0 : 0 ≤ i) (hij : i ≤ j) (hj : Begins c.2.1.1 j) : fold_stack_up (n + 20) (c, s) i j = some (c, upw c s i j) := by
  have hr := h.cok.rng
  have hjj : 0 ≤ j := hj.1
  obtain ⟨e1, b1⟩ := over_wraps hr.w0.1 hr.w1.1 h0 hij hj
  obtain ⟨e2, _⟩ := over_wraps hr.w0.1 hr.w1.1 hjj (Int.le_refl j) hj
  have z1 : ¬ (c.2.1.2.1 = 0) := by have := hr.w1; omega
  have z2 : ¬ (c.2.1.2.2 = 0) := by have := hr.w2; omega
  rw [fold_stack_up_eq]
  simp only [e1, e2, decide_eq_false z1, decide_eq_false z2, tif_false, fold_made1 n h b1, obind_some, stage2 n h h0 hij hj]
  unfold upw
  simp only [tif_dec]
  by_cases c1 : i * c.2.1.1 / c.2.1.2.1 = j * c.2.1.1 / c.2.1.2.1
  · have : up1 c s i j = s := by unfold up1; rw [if_pos c1]
    rw [if_pos c1, this]
  rw [if_neg c1]
  have e3 : up1 c s i j = if (mk1 c s (i * c.2.1.1 / c.2.1.2.1)).2 = 0 ∧ FitsP (mk1 c s (i * c.2.1.1 / c.2.1.2.1)).1 c.2.1.2.1 (i * c.2.1.1 / c.2.1.2.1) then (s.1, (tput s.2.1 (i * c.2.1.1 / c.2.1.2.1) (mk1 c s (i * c.2.1.1 / c.2.1.2.1)).1, s.2.2)) else s := by
    unfold up1; rw [if_neg c1]
  have hk := up1_ok h i j
  rw [e3] at hk ⊢
  generalize i * c.2.1.1 / c.2.1.2.1 = a at *
  have hok : CellOk (mk1 c s a).1 := tfold_okc _ _ _
  by_cases c2 : (mk1 c s a).2 = 0
  · rw [if_pos c2]
    by_cases c3 : 0 < (mk1 c s a).1.1
    · rw [if_pos c3, fold_put1 (n + 10) h a (CelW.of hok)]
      by_cases c4 : FitsP (mk1 c s a).1 c.2.1.2.1 a
      · rw [if_pos (And.intro c2 c4)] at hk ⊢
        rw [if_pos c4]
        have := stage2 n hk h0 hij hj
        simp only [obind_some, if_neg z2]
        simp only [tif_dec] at this ⊢
        exact this
      · have hn1 : ¬ ((mk1 c s a).2 = 0 ∧ FitsP (mk1 c s a).1 c.2.1.2.1 a) := fun k => c4 k.2
        rw [if_neg hn1] at hk ⊢
        rw [if_neg c4]
        have := stage2 n hk h0 hij hj
        simp only [obind_some, if_neg z2]
        simp only [tif_dec] at this ⊢
        exact this
    · rw [if_neg c3, if_neg (fun k => c3 (by have := k.2.n.n1; omega))]
  · rw [if_neg c2, if_neg (fun k => c2 k.1)]
end Go.Proofs.YthjnbidgliejkaaGreat

namespace Go.Proofs.YthjnbidgliejkaaGreat
open Go.Flat Go.Plim
set_option linter.unusedVariables false
set_option linter.unusedSimpArgs false
/-! ### asked from outside -/
noncomputable def closeE (c : Conf) (s : Trs) (was : Slo) (j : Int) : Trs × Int :=
  if FoldOk c s then
    (if was = s0 then (s, 0)
     else if FitsP was.2 c.2.1.1 was.1 then
      (if was.1 = j then (s, 0) else if was.1 ≤ j ∧ Begins c.2.1.1 j then (upw c (tput s.1 was.1 was.2, s.2) was.1 j, 0) else (([], ([], [])), 1))
     else (([], ([], [])), 2))
  else (([], ([], [])), 2)
theorem foldOk_put0 {c : Conf} {s : Trs} (h : FoldOk c s) {i : Int} {x : Cel} (hf : FitsP x c.2.1.1 i) : FoldOk c (tput s.1 i x, s.2) :=
  ⟨h.cok, by simpa [tput] using h.n0, h.n1, h.n2, tput_ok h.t0 hf, h.t1, h.t2⟩
theorem fold_close (n : Nat) (c : Conf) {s : Trs} (hw : TrsW s) {was : Slo} (hx : SloW was) (j : Int) : fold_Close (n + 21) c s was j = some (closeE c s was j) := by
  rw [fold_Close_eq, fold_open_val (n + 12) c hw]
  unfold closeE
  by_cases h : FoldOk c s
  case neg => rw [if_neg h, if_neg h]; rfl
  have hr := h.cok.rng
  rw [if_pos h, if_pos h]
  simp only [obind_some, oelim_some, decide_true, Bool.not_true, tif_false, sloEq0, tif_not, tif_dec, if_true, tier_fits (n + 14) hx.c]
  by_cases c1 : was = s0
  · rw [if_pos c1, if_pos c1, if_pos c1]
  rw [if_neg c1, if_neg c1, if_neg c1]
  by_cases c2 : FitsP was.2 c.2.1.1 was.1
  case neg => rw [if_neg c2, if_neg c2]
  rw [if_pos c2, if_pos c2]
  by_cases c3 : was.1 = j
  · rw [if_pos c3, if_pos c3]
  rw [if_neg c3, if_neg c3]
  by_cases c4 : j < was.1
  · rw [if_pos c4, if_neg (fun q => by omega)]
  rw [if_neg c4, begins_0 (n + 19) c s hr.w0.1 j]
  simp only [obind_some, tif_not, tif_dec]
  by_cases hb : Begins c.2.1.1 j
  · have hi := c2.i0
    rw [if_pos hb, if_pos ⟨by omega, hb⟩, fold_put0 (n + 11) h was.1 hx.c, if_pos c2]
    simp only [obind_some, if_true, fold_up n (foldOk_put0 h c2) hi.1 (show was.1 ≤ j by omega) hb]
  · rw [if_neg hb, if_neg (fun q => hb q.2)]
/-! ### equal -/
theorem FoldOk.lens {c : Conf} {s : Trs} (h : FoldOk c s) : s.1.length ≤ 1000000 ∧ s.2.1.length ≤ 1000000 ∧ s.2.2.length ≤ 1000000 := by
  have := h.t0.l1; have := h.t1.l1; have := h.t2.l1; omega
theorem trs_wf {s : Trs} (h : Wf (.wrap (.pair (.slice tySlot) (.pair (.slice tySlot) (.slice tySlot)))) s) : TrsW s := by
  obtain ⟨h1, h2, h3⟩ := h
  exact ⟨slos_wf h1, slos_wf h2, slos_wf h3⟩
end Go.Proofs.YthjnbidgliejkaaGreat

namespace Go.Proofs.YthjnbidgliejkaaGreat
open Go.Flat Go.Plim
set_option linter.unusedVariables false
set_option linter.unusedSimpArgs false
abbrev Ser := List Lab × (Int × (Rw × (Trs × Slo)))
structure SerW (s : Ser) : Prop where
  last : I64 s.2.1
  raw : RawW s.2.2.1
  trs : TrsW s.2.2.2.1
  opn : SloW s.2.2.2.2
/-- no slot of a window, or of one behind it -/
def NoBehind (l : List Slo) (i : Int) : Prop := ∀ s ∈ l, 0 < s.2.1 → s.1 < i
noncomputable instance (l i) : Decidable (NoBehind l i) := Classical.propDecidable _
structure Fresh (s : Ser) : Prop where
  raw : s.2.2.1.2.2 = []
  opn : s.2.2.2.2 = s0
  b0 : NoBehind s.2.2.2.1.1 0
  b1 : NoBehind s.2.2.2.1.2.1 0
  b2 : NoBehind s.2.2.2.1.2.2 0
structure EndsP (c : Conf) (s : Ser) : Prop where
  last : ∃ e, s.2.2.1.2.2.getLast? = some e ∧ e.1 = s.2.1
  ol : s.2.2.2.2.2.2.2.1.1 = s.2.1
  fit : FitsP s.2.2.2.2.2 c.2.1.1 s.2.2.2.2.1
  b0 : NoBehind s.2.2.2.1.1 (s.2.1 / c.2.1.1)
  b1 : NoBehind s.2.2.2.1.2.1 (s.2.1 / c.2.1.2.1)
  b2 : NoBehind s.2.2.2.1.2.2 (s.2.1 / c.2.1.2.2)
/-- a series that is right -/
structure SerOk (c : Conf) (s : Ser) : Prop where
  fold : FoldOk c s.2.2.2.1
  lab : LabOk s.1
  raw : RawOk s.2.2.1 c.1
  st : (s.2.1 = -1 ∧ Fresh s) ∨ (s.2.1 ≠ -1 ∧ EndsP c s)
noncomputable instance (s) : Decidable (Fresh s) := Classical.propDecidable _
noncomputable instance (c s) : Decidable (EndsP c s) := Classical.propDecidable _
noncomputable instance (c s) : Decidable (SerOk c s) := Classical.propDecidable _
theorem contains_slot (n : Nat) {del : TSlot × Unit → Option Bool} {p : Slo → Bool} (hd : ∀ x, del (x, ()) = some (p x)) (l : List Slo) (hL : l.length ≤ 1000000) : slices_ContainsFunc_Slot (n + 2) l del = some (l.any p) := by
  rw [slices_ContainsFunc_Slot_eq, slices_IndexFunc_Slot_eq]
  rcases index_l hd n l hL l [] loopFuel 0 l.length rfl rfl rfl (by unfold loopFuel; omega) with ⟨h1, h2⟩ | ⟨A, x, B, h1, h2, h3, h4⟩
  · rw [h1]
    have : l.any p = false := by rw [List.any_eq_false]; intro x hx; simp [h2 x hx]
    rw [this]; rfl
  · rw [h4]
    have : l.any p = true := List.any_eq_true.2 ⟨x, by rw [h1]; simp, h3⟩
    simp only [obind_some, selim_inr, this, Int.zero_add]
    rw [decide_eq_true (by omega)]
theorem series_behind_val (n : Nat) (l : List Slo) (i : Int) (hL : l.length ≤ 1000000) : series_behind (n + 3) l i = some (!decide (NoBehind l i)) := by
  rw [series_behind_eq, contains_slot (p := fun s => decide (0 < s.2.1 ∧ i ≤ s.1)) n (fun x => by
    show series_behind_1 (n + 1 + 1) x i = _
    rw [series_behind_1_eq]
    by_cases h1 : 0 < x.2.1 <;> by_cases h2 : i ≤ x.1 <;> simp [h1, h2]) l hL]
  simp only [obind_some]
  refine congrArg some ?_
  by_cases h : NoBehind l i
  · rw [decide_eq_true h]
    rw [List.any_eq_false.2]
    · rfl
    · intro x hx k
      have := of_decide_eq_true k
      have := h x hx this.1
      omega
  · rw [decide_eq_false h]
    have : ∃ x ∈ l, 0 < x.2.1 ∧ i ≤ x.1 := Classical.byContradiction fun k => h fun x hx hc => by
      rcases Int.lt_or_le x.1 i with q | q
      · exact q
      · exact absurd ⟨x, hx, hc, q⟩ k
    obtain ⟨x, hx, hq⟩ := this
    rw [List.any_eq_true.2 ⟨x, hx, decide_eq_true hq⟩]
    rfl
theorem kept_fresh (n : Nat) (c : Conf) {s : Ser} (hf : FoldOk c s.2.2.2.1) : series_kept_fresh (n + 4) (c, s) = some (decide (Fresh s)) := by
  obtain ⟨l0, l1, l2⟩ := hf.lens
  rw [series_kept_fresh_eq, sloEq0, series_behind_val n _ _ l0, series_behind_val n _ _ l1, series_behind_val n _ _ l2]
  simp only [obind_some, Bool.not_not, tif_dec]
  by_cases h1 : (s.2.2.1.2.2.length : Int) = 0
  case neg => rw [if_neg h1, decide_eq_false (fun k : Fresh s => h1 (by rw [k.raw]; rfl))]
  rw [if_pos h1]
  by_cases h2 : s.2.2.2.2 = s0
  case neg => rw [if_neg h2, decide_eq_false (fun k : Fresh s => h2 k.opn)]
  rw [if_pos h2]
  by_cases h3 : NoBehind s.2.2.2.1.1 0
  case neg => rw [if_neg h3, decide_eq_false (fun k : Fresh s => h3 k.b0)]
  rw [if_pos h3]
  by_cases h4 : NoBehind s.2.2.2.1.2.1 0
  case neg => rw [if_neg h4, decide_eq_false (fun k : Fresh s => h4 k.b1)]
  rw [if_pos h4]
  refine congrArg some (decide_eq_decide.2 ⟨fun k => ⟨List.length_eq_zero_iff.1 (by omega), h2, h3, h4, k⟩, fun k => k.b2⟩)
theorem last_ok {c : Conf} {s : Ser} (hr : RawOk s.2.2.1 c.1) {e : Ev} (he : s.2.2.1.2.2.getLast? = some e) : EvOk e := hr.f.ok e (List.mem_of_getLast? he)
theorem kept_ends (n : Nat) (c : Conf) {s : Ser} (hf : FoldOk c s.2.2.2.1) (hr : RawOk s.2.2.1 c.1) (hw : SerW s) : series_kept_ends (n + 7) (c, s) = some (decide (EndsP c s)) := by
  obtain ⟨l0, l1, l2⟩ := hf.lens
  have hg := hf.cok.rng
  have hlen := hr.len; have hm1 := hr.m1
  rw [series_kept_ends_eq, raw_last (n + 5) s.2.2.1 (by omega)]
  cases hl : s.2.2.1.2.2.getLast? with
  | none =>
    simp only [obind_some]
    rw [show (decide ((3 : Int) = 0)) = false from rfl, tif_false, decide_eq_false]
    intro k
    obtain ⟨e, he, _⟩ := k.last
    rw [hl] at he; cases he
  | some e =>
    have heo := last_ok hr hl
    simp only [obind_some, decide_true, tif_true, tif_dec, if_true]
    by_cases h1 : e.1 = s.2.1
    case neg =>
      rw [if_neg h1, decide_eq_false]
      intro k
      obtain ⟨e', he, hq⟩ := k.last
      rw [hl] at he; injection he with he; subst he; exact h1 hq
    rw [if_pos h1]
    by_cases h2 : s.2.2.2.2.2.2.2.1.1 = s.2.1
    case neg => rw [if_neg h2, decide_eq_false (fun k : EndsP c s => h2 k.ol)]
    have q0 := quo_ev heo hg.w0.1; have q1 := quo_ev heo hg.w1.1; have q2 := quo_ev heo hg.w2.1
    rw [h1] at q0 q1 q2
    rw [if_pos h2, tier_fits n hw.opn.c]
    simp only [obind_some, tif_dec, q0, q1, q2, series_behind_val (n + 3) _ _ l0, series_behind_val (n + 3) _ _ l1, series_behind_val (n + 3) _ _ l2, Bool.not_not, if_neg (show ¬ (c.2.1.1 = 0) by have := hg.w0; omega), if_neg (show ¬ (c.2.1.2.1 = 0) by have := hg.w1; omega), if_neg (show ¬ (c.2.1.2.2 = 0) by have := hg.w2; omega)]
    by_cases h3 : FitsP s.2.2.2.2.2 c.2.1.1 s.2.2.2.2.1
    case neg => rw [if_neg h3, decide_eq_false (fun k : EndsP c s => h3 k.fit)]
    rw [if_pos h3]
    by_cases h4 : NoBehind s.2.2.2.1.1 (s.2.1 / c.2.1.1)
    case neg => rw [if_neg h4, decide_eq_false (fun k : EndsP c s => h4 k.b0)]
    rw [if_pos h4]
    by_cases h5 : NoBehind s.2.2.2.1.2.1 (s.2.1 / c.2.1.2.1)
    case neg => rw [if_neg h5, decide_eq_false (fun k : EndsP c s => h5 k.b1)]
    rw [if_pos h5]
    refine congrArg some (decide_eq_decide.2 ⟨fun k => ⟨⟨e, hl, h1⟩, h2, h3, h4, h5, k⟩, fun k => k.b2⟩)
theorem z08 (p : Prop) [Decidable p] : ((if p then (0 : Int) else 8) = 0) ↔ p := by by_cases h : p <;> simp [h]
theorem series_open_val (n : Nat) (c : Conf) {s : Ser} (hw : SerW s) : series_open (n + 10) c s = some (if SerOk c s then (some (c, s), 0) else (none, 2)) := by
  rw [series_open_eq, fold_check n c hw.trs, label_check (n + 3), raw_check (n + 4) _ _ hw.raw]
  simp only [obind_some, tif_not, tif_dec]
  by_cases h1 : FoldOk c s.2.2.2.1
  case neg => rw [if_neg (mt (z02 _).1 h1), if_neg (fun k : SerOk c s => h1 k.fold)]
  by_cases h2 : LabOk s.1
  case neg => rw [if_pos ((z02 _).2 h1), if_neg (mt (z08 _).1 h2), if_neg (fun k : SerOk c s => h2 k.lab)]
  by_cases h3 : RawOk s.2.2.1 c.1
  case neg => rw [if_pos ((z02 _).2 h1), if_pos ((z08 _).2 h2), if_neg (mt (z02 _).1 h3), if_neg (fun k : SerOk c s => h3 k.raw)]
  rw [if_pos ((z02 _).2 h1), if_pos ((z08 _).2 h2), if_pos ((z02 _).2 h3), kept_fresh (n + 5) c h1, kept_ends (n + 2) c h1 h3 hw]
  simp only [obind_some, tif_dec]
  by_cases h4 : s.2.1 = -1
  · rw [if_pos h4]
    by_cases h5 : Fresh s
    · rw [if_pos h5, if_pos (⟨h1, h2, h3, .inl ⟨h4, h5⟩⟩ : SerOk c s)]
    · rw [if_neg h5, if_pos h4, if_neg (fun k : SerOk c s => by
        rcases k.st with q | q
        · exact h5 q.2
        · exact q.1 h4)]
  · rw [if_neg h4, if_neg h4]
    by_cases h5 : EndsP c s
    · rw [if_pos h5, if_pos (⟨h1, h2, h3, .inr ⟨h4, h5⟩⟩ : SerOk c s)]
    · rw [if_neg h5, if_neg (fun k : SerOk c s => by
        rcases k.st with q | q
        · exact h4 q.1
        · exact h5 q.2)]
/-! ### the document's -/
theorem noBehind_iff {l : List Slo} {w : Int} (h : TierOk l w) (i : Int) : NoBehind l i ↔ ∀ s ∈ tall l, s.1 < i := by
  constructor
  · intro k s hs
    have := (tall_N h hs).n1
    exact k s (mem_tall.1 hs).1 (by omega)
  · intro k s hs hc
    exact k s (mem_tall.2 ⟨hs, fun e => by rw [e] at hc; simp [s0, z0] at hc⟩)
theorem noBehind0 {l : List Slo} {w : Int} (h : TierOk l w) : NoBehind l 0 ↔ tall l = [] := by
  rw [noBehind_iff h]
  constructor
  · intro k
    by_cases e : tall l = []
    · exact e
    · obtain ⟨s, hs⟩ := List.exists_mem_of_ne_nil _ e
      have := (tall_fits h hs).1.i0
      have := k s hs
      omega
  · intro e s hs; rw [e] at hs; cases hs
end Go.Proofs.YthjnbidgliejkaaGreat

namespace Go.Proofs.YthjnbidgliejkaaGreat
open Go.Flat Go.Plim
set_option linter.unusedVariables false
set_option linter.unusedSimpArgs false
/-! ### the document's cell with one more event -/
theorem nn {α : Type} {a b : α} (h : a = b) : ¬ (a ≠ b) := fun k => k h
/-! ### put -/
def ser0 : Ser := ([], (0, (r0w, (([], ([], [])), s0))))
/-- is another window open? -/
def TurnS (s : Ser) (i : Int) : Prop := s.2.2.2.2 ≠ s0 ∧ s.2.2.2.2.1 ≠ i
noncomputable instance (s i) : Decidable (TurnS s i) := Classical.propDecidable _
noncomputable def turned (c : Conf) (s : Ser) (i : Int) : (Trs × Slo) × Int :=
  if TurnS s i then (if (closeE c s.2.2.2.1 s.2.2.2.2 i).2 = 0 then (((closeE c s.2.2.2.1 s.2.2.2.2 i).1, s0), 0) else ((s.2.2.2.1, s.2.2.2.2), (closeE c s.2.2.2.1 s.2.2.2.2 i).2)) else ((s.2.2.2.1, s.2.2.2.2), 0)
noncomputable def putE (c : Conf) (s : Ser) (e : Ev) : Ser × Int :=
  if SerOk c s ∧ EvOk e then
    (if e.1 ≤ s.2.1 then (ser0, 9)
     else if (turned c s (e.1 / c.2.1.1)).2 ≠ 0 then (ser0, (turned c s (e.1 / c.2.1.1)).2)
     else if (rawPut s.2.2.1 c.1 e).2 ≠ 0 then (ser0, (rawPut s.2.2.1 c.1 e).2)
     else if (mrgE (turned c s (e.1 / c.2.1.1)).1.2.2 (evCell e)).2 ≠ 0 then (ser0, (mrgE (turned c s (e.1 / c.2.1.1)).1.2.2 (evCell e)).2)
     else ((s.1, (e.1, ((rawPut s.2.2.1 c.1 e).1, ((turned c s (e.1 / c.2.1.1)).1.1, (e.1 / c.2.1.1, (mrgE (turned c s (e.1 / c.2.1.1)).1.2.2 (evCell e)).1))))), 0))
  else (ser0, 2)
theorem open_zero {c : Conf} {s : Ser} (h : SerOk c s) : s.2.2.2.2.2.1 = 0 ↔ s.2.2.2.2 = s0 := by
  constructor
  · intro k
    rcases h.st with q | q
    · exact q.2.opn
    · have := q.2.fit.n.n1; omega
  · intro k; rw [k]; rfl
theorem turned_w {c : Conf} {s : Ser} (hw : SerW s) (i : Int) : SloW (turned c s i).1.2 := by
  unfold turned
  split
  · split
    · exact slow_s0
    · exact hw.opn
  · exact hw.opn
theorem kept_turn (n : Nat) (c : Conf) {s : Ser} (h : SerOk c s) (hw : SerW s) (i : Int) : series_kept_turn (n + 22) (c, s) i = some ((turned c s i).2, (c, (s.1, (s.2.1, (s.2.2.1, (turned c s i).1))))) := by
  rw [series_kept_turn_eq]
  simp only [tif_dec, fold_close n c hw.trs hw.opn i, obind_some]
  unfold turned
  by_cases h1 : s.2.2.2.2.1 = i
  · rw [if_pos h1, if_neg (fun k : TurnS s i => k.2 h1)]
  rw [if_neg h1]
  by_cases h2 : s.2.2.2.2.2.1 = 0
  · rw [if_pos h2, if_neg (fun k : TurnS s i => k.1 ((open_zero h).1 h2))]
  have ht : TurnS s i := ⟨fun k => h2 ((open_zero h).2 k), h1⟩
  rw [if_neg h2, if_pos ht]
  by_cases h3 : (closeE c s.2.2.2.1 s.2.2.2.2 i).2 = 0
  · rw [if_pos h3, if_pos h3, h3]; rfl
  · rw [if_neg h3, if_neg h3]
theorem series_put (n : Nat) (c : Conf) {s : Ser} (hw : SerW s) {e : Ev} (he : EvW e) : series_Put (n + 23) c s e = some (putE c s e) := by
  rw [series_Put_eq, series_open_val (n + 12) c hw, event_check _ he]
  unfold putE
  by_cases h1 : SerOk c s
  case neg => rw [if_neg h1, if_neg (fun k : SerOk c s ∧ EvOk e => h1 k.1)]; rfl
  rw [if_pos h1]
  have hg := h1.fold.cok.rng
  simp only [obind_some, oelim_some, decide_true, Bool.not_true, tif_false, tif_not, tif_dec]
  by_cases h2 : EvOk e
  case neg => rw [if_neg (mt (z02 _).1 h2), if_neg (fun k : SerOk c s ∧ EvOk e => h2 k.2)]; rfl
  rw [if_pos ((z02 _).2 h2), if_pos (And.intro h1 h2)]
  by_cases h3 : e.1 ≤ s.2.1
  · rw [if_pos h3, if_pos h3]; rfl
  rw [if_neg h3, if_neg h3, if_neg (show ¬ (c.2.1.1 = 0) by have := hg.w0; omega), quo_ev h2 hg.w0.1, kept_turn n c h1 hw]
  generalize ht : turned c s (e.1 / c.2.1.1) = t
  have htw := turned_w (c := c) hw (e.1 / c.2.1.1)
  rw [ht] at htw
  simp only [obind_some]
  by_cases h4 : t.2 = 0
  case neg => rw [if_neg h4, if_pos h4]; rfl
  rw [if_pos h4, if_neg (nn h4), series_kept_add_eq, raw_put (n + 15) c.1 hw.raw he, cell_add (n + 14) htw.c he, if_pos h2]
  simp only [obind_some, tif_not, tif_dec]
  by_cases h5 : (rawPut s.2.2.1 c.1 e).2 = 0
  case neg =>
    rw [if_neg h5, if_pos h5]
    simp only [obind_some]
    rw [if_neg h5]; rfl
  rw [if_pos h5, if_neg (nn h5)]
  simp only [obind_some]
  by_cases h6 : (mrgE t.1.2.2 (evCell e)).2 = 0
  · rw [if_pos h6, if_neg (nn h6)]; simp only [if_true]
  · rw [if_neg h6, if_pos h6]; rfl
end Go.Proofs.YthjnbidgliejkaaGreat

namespace Go.Plim
set_option linter.unusedVariables false
/-- the events of windows ahead of a time's -/
def below (w : Int) (l : List Ev) (t : Int) : List Ev := l.filter fun e => decide (e.1 / w < t / w)
/-- of events that end with one of a time -/
structure EndsAt (l : List Ev) (t : Int) : Prop where
  foll : Foll l
  le : ∀ e ∈ l, e.1 ≤ t
  last : ∃ e ∈ l, e.1 = t
theorem EndsAt.wle {l : List Ev} {t : Int} (h : EndsAt l t) {w : Int} (hw : 1 ≤ w) : ∀ e ∈ l, e.1 / w ≤ t / w := fun e he => Int.ediv_le_ediv (by omega) (h.le e he)
theorem ends_split {l : List Ev} {t : Int} (h : EndsAt l t) {w : Int} (hw : 1 ≤ w) : l = below w l t ++ win w l (t / w) := by
  have key : ∀ (m : List Ev), (∀ e ∈ m, e.1 / w ≤ t / w) → m.Pairwise (fun a b => a.1 / w ≤ b.1 / w) → m = below w m t ++ win w m (t / w) := by
    intro m
    induction m with
    | nil => intro _ _; rfl
    | cons x m ih =>
      intro h1 h2
      rw [List.pairwise_cons] at h2
      have ih' := ih (fun e he => h1 e (by simp [he])) h2.2
      have hx := h1 x (by simp)
      unfold below win at *
      by_cases c : x.1 / w < t / w
      · rw [List.filter_cons_of_pos (by simpa using c), List.filter_cons_of_neg (by simp; omega), List.cons_append, ← ih']
      · have e0 : m.filter (fun e => decide (e.1 / w < t / w)) = [] := by
          rw [List.filter_eq_nil_iff]
          intro y hy
          have := h2.1 y hy
          simp; omega
        rw [List.filter_cons_of_neg (by simpa using c), List.filter_cons_of_pos (by simp; omega), e0, List.nil_append]
        rw [e0, List.nil_append] at ih'
        rw [← ih']
  exact key l (h.wle hw) (foll_wd hw h.foll)
theorem tput_tput (t : List Slo) (i : Int) (a b : Cel) : tput (tput t i a) i b = tput t i b := by
  unfold tput
  rw [List.length_set, List.set_set]
/-- a window's events, put together -/
theorem tierInv_block {t : List Slo} {w a : Int} {l : List Ev} (h : TierInv t w l) : ∀ (n : Nat) (B : List Ev), B.length = n + 1 → Foll (l ++ B) → (∀ e ∈ B, e.1 / w = a) →
    FitsP (cellOf (win w (l ++ B) a)) w a ∧ TierInv (tput t a (cellOf (win w (l ++ B) a))) w (l ++ B) := by
  intro n
  induction n with
  | zero =>
    intro B hB hf ha
    match B, hB with
    | [e], _ =>
      have he := ha e (by simp)
      have := tierInv_put h hf
      rw [he] at this
      rw [win_snoc, if_pos he]
      exact this
  | succ n ih =>
    intro B hB hf ha
    rcases List.eq_nil_or_concat B with rfl | ⟨B', e, rfl⟩
    · cases hB
    rw [List.concat_eq_append] at *
    have he := ha e (by simp)
    have hf' : Foll (l ++ B' ++ [e]) := by rw [List.append_assoc]; exact hf
    obtain ⟨h1, h2⟩ := ih B' (by simp at hB; exact hB) (foll_append.1 hf').1 (fun x hx => ha x (by simp [hx]))
    have := tierInv_put h2 hf'
    rw [he, tput_tput, List.append_assoc] at this
    rw [← List.append_assoc, win_snoc, if_pos he]
    rw [List.append_assoc]
    exact this
/-- the window of the last event is put whole -/
theorem tierInv_close {s : List Slo} {w : Int} {l : List Ev} {t : Int} (he : EndsAt l t) (h : TierInv s w (below w l t)) : FitsP (cellOf (win w l (t / w))) w (t / w) ∧ TierInv (tput s (t / w) (cellOf (win w l (t / w)))) w l := by
  have hw := h.ok.w0
  have hs := ends_split he hw
  obtain ⟨e, hel, het⟩ := he.last
  have hne : win w l (t / w) ≠ [] := fun k => by
    have : e ∈ win w l (t / w) := mem_win.2 ⟨hel, by rw [het]⟩
    rw [k] at this; cases this
  have hlen : (win w l (t / w)).length = ((win w l (t / w)).length - 1) + 1 := by have := List.length_pos_iff.2 hne; omega
  have := tierInv_block h _ (win w l (t / w)) hlen (by rw [← hs]; exact he.foll) (fun x hx => (mem_win.1 hx).2)
  rw [← hs] at this
  exact this
/-- windows of two tiers: the upper one's are so many of the lower one's -/
theorem ediv_mul_ediv {t a b : Int} (ha : 1 ≤ a) (hb : 1 ≤ b) (hm : b % a = 0) : t / a * a / b = t / b ∧ t / a / (b / a) = t / b := by
  have e : a * (b / a) = b := by have := Int.mul_ediv_add_emod b a; omega
  have h1 : t / a / (b / a) = t / b := by rw [Int.ediv_ediv_of_nonneg (by omega), e]
  refine ⟨?_, h1⟩
  rw [← h1]
  conv => lhs; rw [← e, Int.mul_comm (t / a) a]
  exact Int.mul_ediv_mul_of_pos _ _ (by omega)
end Go.Plim
namespace Go.Proofs.YthjnbidgliejkaaGreat
open Go.Flat Go.Plim
/-- what three tiers have of events, at a time -/
structure FInv (c : Conf) (s : Trs) (l : List Ev) (t : Int) : Prop where
  ok : FoldOk c s
  i0 : TierInv s.1 c.2.1.1 (below c.2.1.1 l t)
  i1 : TierInv s.2.1 c.2.1.2.1 (below c.2.1.2.1 l t)
  i2 : TierInv s.2.2 c.2.1.2.2 (below c.2.1.2.2 l t)
theorem OkC.m02 {c : Conf} (h : OkC c) : c.2.1.2.2 % c.2.1.1 = 0 := by
  have h1 := Int.dvd_of_emod_eq_zero h.m1
  have h2 := Int.dvd_of_emod_eq_zero h.m2
  exact Int.emod_eq_zero_of_dvd (Int.dvd_trans h1 h2)
end Go.Proofs.YthjnbidgliejkaaGreat

namespace Go.Proofs.YthjnbidgliejkaaGreat
open Go.Flat Go.Plim
set_option linter.unusedVariables false
set_option linter.unusedSimpArgs false
/-! ### slots of one tier always merge -/
/-! ### the window that is open -/
noncomputable def now1 (c : Conf) (s : Ser) : Cel × Int := mrgE (tfold s.2.2.2.1.1 (s.2.1 / c.2.1.2.1 * (c.2.1.2.1 / c.2.1.1)) (s.2.1 / c.2.1.1)).1 s.2.2.2.2.2
noncomputable def now2 (c : Conf) (s : Ser) : Cel × Int :=
  if (now1 c s).2 ≠ 0 then (z0, (now1 c s).2) else mrgE (tfold s.2.2.2.1.2.1 (s.2.1 / c.2.1.2.2 * (c.2.1.2.2 / c.2.1.2.1)) (s.2.1 / c.2.1.2.1)).1 (now1 c s).1
theorem serOk_ends {c : Conf} {s : Ser} (h : SerOk c s) (hn : ¬ (s.2.1 = -1)) : EndsP c s ∧ ∃ e, EvOk e ∧ e.1 = s.2.1 := by
  rcases h.st with q | q
  · exact absurd q.1 hn
  · obtain ⟨e, he, h1⟩ := q.2.last
    exact ⟨q.2, e, last_ok h.raw he, h1⟩
structure At (c : Conf) (s : Ser) : Prop where
  l0 : 0 ≤ s.2.1
  l1 : s.2.1 < 35184372088832
theorem serOk_at {c : Conf} {s : Ser} (h : SerOk c s) (hn : ¬ (s.2.1 = -1)) : 0 ≤ s.2.1 ∧ s.2.1 < 35184372088832 := by
  obtain ⟨_, e, he, h1⟩ := serOk_ends h hn
  rw [← h1]; exact ⟨he.t0, he.t1⟩
theorem quo_at {t : Int} (ht : 0 ≤ t ∧ t < 35184372088832) {w : Int} (hw : 1 ≤ w) : IntKind.wrap .i64 (Int.tdiv t w) = t / w := by
  have : 0 ≤ t / w := Int.ediv_nonneg ht.1 (by omega)
  have : t / w ≤ t := Int.ediv_le_self _ ht.1
  rw [tdiv_nn ht.1, w64 (by omega) (by omega)]
theorem nz {w : Int} (h : 1 ≤ w) : ¬ (w = 0) := by omega
end Go.Proofs.YthjnbidgliejkaaGreat

namespace Go.Proofs.YthjnbidgliejkaaGreat
open Go.Flat Go.Plim
set_option linter.unusedVariables false
set_option linter.unusedSimpArgs false
/-! ### any tier -/
end Go.Proofs.YthjnbidgliejkaaGreat

namespace Go.Proofs.YthjnbidgliejkaaGreat
open Go.Flat Go.Plim
set_option linter.unusedVariables false
set_option linter.unusedSimpArgs false
theorem small_l2_3 (n f : Nat) (s : Trs) : l14_Small_l2 n (f + 1) (s, (3 : Int), ()) = some (.inl ()) := by
  rw [l14_Small_l2_eq, show (decide ((3 : Int) < 3)) = false from rfl, tif_false]
theorem small_l2_2 (n f : Nat) (s : Trs) : l14_Small_l2 n (f + 2) (s, (2 : Int), ()) = some (if (40 : Int) < s.2.2.length then .inr 0 else .inl ()) := by
  rw [l14_Small_l2_eq, show (decide ((2 : Int) < 3)) = true from rfl, tif_true, show (decide ((2 : Int) = 0)) = false from rfl, tif_false, show (decide ((2 : Int) = 1)) = false from rfl, tif_false, show (decide ((2 : Int) = 2)) = true from rfl, tif_true]
  rw [show IntKind.wrap .i64 ((2 : Int) + 1) = 3 from rfl, small_l2_3]
  simp only [tif_dec]
  split <;> rfl
theorem small_l2_1 (n f : Nat) (s : Trs) : l14_Small_l2 n (f + 3) (s, (1 : Int), ()) = some (if (40 : Int) < s.2.1.length ∨ (40 : Int) < s.2.2.length then .inr 0 else .inl ()) := by
  rw [l14_Small_l2_eq, show (decide ((1 : Int) < 3)) = true from rfl, tif_true, show (decide ((1 : Int) = 0)) = false from rfl, tif_false, show (decide ((1 : Int) = 1)) = true from rfl, tif_true]
  rw [show IntKind.wrap .i64 ((1 : Int) + 1) = 2 from rfl, small_l2_2]
  simp only [tif_dec]
  by_cases h : (40 : Int) < s.2.1.length
  · rw [if_pos h, if_pos (.inl h)]
  · rw [if_neg h]
    by_cases h' : (40 : Int) < s.2.2.length
    · rw [if_pos h', if_pos (.inr h')]
    · rw [if_neg h', if_neg (fun k => k.elim h h')]
theorem small_l2_0 (n f : Nat) (s : Trs) : l14_Small_l2 n (f + 4) (s, (0 : Int), ()) = some (if (40 : Int) < s.1.length ∨ (40 : Int) < s.2.1.length ∨ (40 : Int) < s.2.2.length then .inr 0 else .inl ()) := by
  rw [l14_Small_l2_eq, show (decide ((0 : Int) < 3)) = true from rfl, tif_true, show (decide ((0 : Int) = 0)) = true from rfl, tif_true]
  rw [show IntKind.wrap .i64 ((0 : Int) + 1) = 1 from rfl, small_l2_1]
  simp only [tif_dec]
  by_cases h : (40 : Int) < s.1.length
  · rw [if_pos h, if_pos (.inl h)]
  · rw [if_neg h]
    by_cases h' : (40 : Int) < s.2.1.length ∨ (40 : Int) < s.2.2.length
    · rw [if_pos h', if_pos (.inr h')]
    · rw [if_neg h', if_neg (fun k => k.elim h h')]
/-- small tiers -/
def Small14 (s : Trs) : Prop := s.1.length ≤ 40 ∧ s.2.1.length ≤ 40 ∧ s.2.2.length ≤ 40
instance (s : Trs) : Decidable (Small14 s) := by unfold Small14; infer_instance
theorem l14_small (n : Nat) (s : Trs) : l14_Small (n + 1) s = some (if Small14 s then 1 else 0) := by
  rw [l14_Small_eq, show loopFuel = (2 ^ 70 - 4) + 4 from by decide, small_l2_0]
  by_cases h : Small14 s
  · rw [if_pos h, if_neg (by unfold Small14 at h; omega)]; rfl
  · rw [if_neg h, if_pos (by unfold Small14 at h; omega)]; rfl
end Go.Proofs.YthjnbidgliejkaaGreat

namespace Go.Proofs.YthjnbidgliejkaaGreat
open Go.Flat Go.Plim
set_option linter.unusedVariables false
set_option linter.unusedSimpArgs false
theorem r05_same_l (n : Nat) (l : List Lab) (hL : l.length ≤ 1000000) : ∀ (rest pre : List Lab) (f : Nat) (ix len : Int), l = pre ++ rest → ix = pre.length → len = l.length → rest.length < f → r05_Same_l4 n f (l, l, len, ix, ()) = some (.inl ()) := by
  intro rest
  induction rest with
  | nil =>
    intro pre f ix len hl hi hn hf
    obtain ⟨f, rfl⟩ : ∃ g, f = g + 1 := ⟨f - 1, by simp at hf; omega⟩
    rw [r05_Same_l4_eq]
    simp only [tif_dec, if_neg (idxe hl hi hn)]
  | cons x rest ih =>
    intro pre f ix len hl hi hn hf
    obtain ⟨f, rfl⟩ : ∃ g, f = g + 1 := ⟨f - 1, by simp at hf; omega⟩
    rw [r05_Same_l4_eq]
    simp only [tif_dec, if_pos (idx hl hi hn), at_mid hl hi, obind_some, labEq, decide_true, Bool.not_true, tif_false, idxw hl hi (by omega)]
    exact ih (pre ++ [x]) f (ix + 1) len (idxl hl) (idxs hi) hn (by simp at hf; omega)
/-- lists that are not too long -/
structure SerL (s : Ser) : Prop where
  l : s.1.length ≤ 1000000
  r : s.2.2.1.2.2.length ≤ 1000000
  a : s.2.2.2.1.1.length ≤ 1000000
  b : s.2.2.2.1.2.1.length ≤ 1000000
  d : s.2.2.2.1.2.2.length ≤ 1000000
theorem series_check (n : Nat) (c : Conf) {s : Ser} (hw : SerW s) : series_Check (n + 11) c s = some (if SerOk c s then 0 else 2) := by
  rw [series_Check_eq, series_open_val n c hw]
  by_cases h : SerOk c s
  · rw [if_pos h, if_pos h]; rfl
  · rw [if_neg h, if_neg h]; rfl
/-! ### small ones -/
theorem small05_l (n : Nat) (l : List Lab) (hL : l.length ≤ 9223372036854775807) : ∀ (rest pre : List Lab) (f : Nat) (ix len : Int), l = pre ++ rest → ix = pre.length → len = l.length → rest.length < f →
    l05_Small_l2 n f (l, len, ix, ()) = some (.inl ()) ∨ l05_Small_l2 n f (l, len, ix, ()) = some (.inr 0) := by
  intro rest
  induction rest with
  | nil =>
    intro pre f ix len hl hi hn hf
    obtain ⟨f, rfl⟩ : ∃ g, f = g + 1 := ⟨f - 1, by simp at hf; omega⟩
    left
    rw [l05_Small_l2_eq]
    simp only [tif_dec, if_neg (idxe hl hi hn)]
  | cons x rest ih =>
    intro pre f ix len hl hi hn hf
    obtain ⟨f, rfl⟩ : ∃ g, f = g + 1 := ⟨f - 1, by simp at hf; omega⟩
    have hlen := congrArg List.length hl
    simp at hlen
    rw [l05_Small_l2_eq]
    simp only [tif_dec, if_pos (idx hl hi hn), at_mid hl hi, obind_some]
    rw [w64 (x := ix + 1) (by omega) (by omega)]
    by_cases h1 : ix = 40
    · right; rw [if_pos h1]
    rw [if_neg h1]
    by_cases h2 : (1000 : Int) < x.1.length
    · right; rw [if_pos h2]
    rw [if_neg h2]
    by_cases h3 : (1000 : Int) < x.2.length
    · right; rw [if_pos h3]
    rw [if_neg h3]
    exact ih (pre ++ [x]) f (ix + 1) len (idxl hl) (idxs hi) hn (by simp at hf; omega)
theorem l05_small (n : Nat) (l : List Lab) (hL : l.length ≤ 9223372036854775807) : l05_Small (n + 1) l = some 0 ∨ l05_Small (n + 1) l = some 1 := by
  rw [l05_Small_eq]
  rcases small05_l n l hL l [] loopFuel 0 _ rfl rfl rfl (by unfold loopFuel; omega) with h | h
  · right; rw [h]; rfl
  · left; rw [h]; rfl
theorem l15_small (n : Nat) (s : Ser) (hL : s.1.length ≤ 9223372036854775807) : l15_Small (n + 2) s = some 0 ∨ l15_Small (n + 2) s = some 1 := by
  rw [l15_Small_eq]
  rcases l05_small n s.1 hL with h | h
  · left; rw [h]; rfl
  · rw [h]
    simp only [obind_some, tif_dec, if_neg (show ¬ ((1 : Int) = 0) by omega)]
    by_cases h1 : (60 : Int) < s.2.2.1.2.2.length
    · left; rw [if_pos h1]
    rw [if_neg h1, l14_small]
    simp only [obind_some]
    split
    · right; rfl
    · left; rfl
theorem ser_wf {s : Ser} (h : Wf tySeries s) : SerW s := by
  obtain ⟨h1, h2, h3, h4, h5⟩ := h
  refine ⟨h2, ?_, trs_wf h4, slo_wf h5⟩
  intro e he
  exact ev_wf (h3.2.2.2 e he)
end Go.Proofs.YthjnbidgliejkaaGreat

namespace Go.Proofs.YthjnbidgliejkaaGreat
open Go.Flat Go.Plim
set_option linter.unusedVariables false
set_option linter.unusedSimpArgs false
theorem eq_slices_Equal_Label_l (n : Nat) (a b : List Lab) (hL : a.length ≤ 9223372036854775807) : ∀ (ra rb pa pb : List Lab) (f : Nat) (ix len : Int), a = pa ++ ra → b = pb ++ rb → pa.length = pb.length → ra.length = rb.length → ix = pa.length → len = a.length → ra.length < f →
    slices_Equal_Label_l4 n f (a, b, len, ix, ()) = some (if ra = rb then .inl () else .inr false) := by
  intro ra
  induction ra with
  | nil =>
    intro rb pa pb f ix len ha hb hp hr hi hn hf
    obtain ⟨f, rfl⟩ : ∃ g, f = g + 1 := ⟨f - 1, by simp at hf; omega⟩
    have e : rb = [] := List.length_eq_zero_iff.1 (by simpa using hr.symm)
    subst e
    rw [slices_Equal_Label_l4_eq, decide_eq_false (idxe ha hi hn), tif_false, if_pos rfl]
  | cons x ra ih =>
    intro rb pa pb f ix len ha hb hp hr hi hn hf
    obtain ⟨f, rfl⟩ : ∃ g, f = g + 1 := ⟨f - 1, by simp at hf; omega⟩
    cases rb with
    | nil => simp at hr
    | cons y rb =>
      have hlen := congrArg List.length ha
      simp at hlen
      rw [slices_Equal_Label_l4_eq, decide_eq_true (idx ha hi hn), tif_true, at_mid ha hi, at_mid hb (by omega)]
      simp only [obind_some, labEq]
      rw [w64 (x := ix + 1) (by omega) (by omega)]
      by_cases h : x = y
      · subst h
        simp only [decide_true, Bool.not_true, tif_false]
        rw [ih rb (pa ++ [x]) (pb ++ [x]) f (ix + 1) len (idxl ha) (idxl hb) (by simp; omega) (by simpa using hr) (idxs hi) hn (by simp at hf; omega)]
        simp
      · rw [if_neg (by simp [h])]
        simp only [decide_eq_false h, Bool.not_false, tif_true]
theorem eq_slices_Equal_Label (n : Nat) (a b : List Lab) (hL : a.length ≤ 9223372036854775807) : slices_Equal_Label (n + 1) a b = some (decide (a = b)) := by
  rw [slices_Equal_Label_eq]
  by_cases h : a.length = b.length
  · rw [decide_eq_true (show ((a.length : Nat) : Int) = (b.length : Nat) by omega)]
    simp only [Bool.not_true, tif_false]
    rw [eq_slices_Equal_Label_l n a b hL a b [] [] loopFuel 0 _ rfl rfl rfl h rfl rfl (by unfold loopFuel; omega)]
    by_cases h' : a = b
    · rw [if_pos h', decide_eq_true h']; rfl
    · rw [if_neg h', decide_eq_false h']; rfl
  · rw [decide_eq_false (show ¬ ((a.length : Nat) : Int) = (b.length : Nat) by omega), decide_eq_false (fun k : a = b => h (by rw [k]))]
    rfl
theorem eq_slices_Equal_Event_l (n : Nat) (a b : List Ev) (hL : a.length ≤ 9223372036854775807) : ∀ (ra rb pa pb : List Ev) (f : Nat) (ix len : Int), a = pa ++ ra → b = pb ++ rb → pa.length = pb.length → ra.length = rb.length → ix = pa.length → len = a.length → ra.length < f →
    slices_Equal_Event_l4 n f (a, b, len, ix, ()) = some (if ra = rb then .inl () else .inr false) := by
  intro ra
  induction ra with
  | nil =>
    intro rb pa pb f ix len ha hb hp hr hi hn hf
    obtain ⟨f, rfl⟩ : ∃ g, f = g + 1 := ⟨f - 1, by simp at hf; omega⟩
    have e : rb = [] := List.length_eq_zero_iff.1 (by simpa using hr.symm)
    subst e
    rw [slices_Equal_Event_l4_eq, decide_eq_false (idxe ha hi hn), tif_false, if_pos rfl]
  | cons x ra ih =>
    intro rb pa pb f ix len ha hb hp hr hi hn hf
    obtain ⟨f, rfl⟩ : ∃ g, f = g + 1 := ⟨f - 1, by simp at hf; omega⟩
    cases rb with
    | nil => simp at hr
    | cons y rb =>
      have hlen := congrArg List.length ha
      simp at hlen
      rw [slices_Equal_Event_l4_eq, decide_eq_true (idx ha hi hn), tif_true, at_mid ha hi, at_mid hb (by omega)]
      simp only [obind_some, evEq]
      rw [w64 (x := ix + 1) (by omega) (by omega)]
      by_cases h : x = y
      · subst h
        simp only [decide_true, Bool.not_true, tif_false]
        rw [ih rb (pa ++ [x]) (pb ++ [x]) f (ix + 1) len (idxl ha) (idxl hb) (by simp; omega) (by simpa using hr) (idxs hi) hn (by simp at hf; omega)]
        simp
      · rw [if_neg (by simp [h])]
        simp only [decide_eq_false h, Bool.not_false, tif_true]
theorem eq_slices_Equal_Event (n : Nat) (a b : List Ev) (hL : a.length ≤ 9223372036854775807) : slices_Equal_Event (n + 1) a b = some (decide (a = b)) := by
  rw [slices_Equal_Event_eq]
  by_cases h : a.length = b.length
  · rw [decide_eq_true (show ((a.length : Nat) : Int) = (b.length : Nat) by omega)]
    simp only [Bool.not_true, tif_false]
    rw [eq_slices_Equal_Event_l n a b hL a b [] [] loopFuel 0 _ rfl rfl rfl h rfl rfl (by unfold loopFuel; omega)]
    by_cases h' : a = b
    · rw [if_pos h', decide_eq_true h']; rfl
    · rw [if_neg h', decide_eq_false h']; rfl
  · rw [decide_eq_false (show ¬ ((a.length : Nat) : Int) = (b.length : Nat) by omega), decide_eq_false (fun k : a = b => h (by rw [k]))]
    rfl
theorem eq_slices_Equal_Slot_l (n : Nat) (a b : List Slo) (hL : a.length ≤ 9223372036854775807) : ∀ (ra rb pa pb : List Slo) (f : Nat) (ix len : Int), a = pa ++ ra → b = pb ++ rb → pa.length = pb.length → ra.length = rb.length → ix = pa.length → len = a.length → ra.length < f →
    slices_Equal_Slot_l4 n f (a, b, len, ix, ()) = some (if ra = rb then .inl () else .inr false) := by
  intro ra
  induction ra with
  | nil =>
    intro rb pa pb f ix len ha hb hp hr hi hn hf
    obtain ⟨f, rfl⟩ : ∃ g, f = g + 1 := ⟨f - 1, by simp at hf; omega⟩
    have e : rb = [] := List.length_eq_zero_iff.1 (by simpa using hr.symm)
    subst e
    rw [slices_Equal_Slot_l4_eq, decide_eq_false (idxe ha hi hn), tif_false, if_pos rfl]
  | cons x ra ih =>
    intro rb pa pb f ix len ha hb hp hr hi hn hf
    obtain ⟨f, rfl⟩ : ∃ g, f = g + 1 := ⟨f - 1, by simp at hf; omega⟩
    cases rb with
    | nil => simp at hr
    | cons y rb =>
      have hlen := congrArg List.length ha
      simp at hlen
      rw [slices_Equal_Slot_l4_eq, decide_eq_true (idx ha hi hn), tif_true, at_mid ha hi, at_mid hb (by omega)]
      simp only [obind_some, sloEq]
      rw [w64 (x := ix + 1) (by omega) (by omega)]
      by_cases h : x = y
      · subst h
        simp only [decide_true, Bool.not_true, tif_false]
        rw [ih rb (pa ++ [x]) (pb ++ [x]) f (ix + 1) len (idxl ha) (idxl hb) (by simp; omega) (by simpa using hr) (idxs hi) hn (by simp at hf; omega)]
        simp
      · rw [if_neg (by simp [h])]
        simp only [decide_eq_false h, Bool.not_false, tif_true]
theorem eq_slices_Equal_Slot (n : Nat) (a b : List Slo) (hL : a.length ≤ 9223372036854775807) : slices_Equal_Slot (n + 1) a b = some (decide (a = b)) := by
  rw [slices_Equal_Slot_eq]
  by_cases h : a.length = b.length
  · rw [decide_eq_true (show ((a.length : Nat) : Int) = (b.length : Nat) by omega)]
    simp only [Bool.not_true, tif_false]
    rw [eq_slices_Equal_Slot_l n a b hL a b [] [] loopFuel 0 _ rfl rfl rfl h rfl rfl (by unfold loopFuel; omega)]
    by_cases h' : a = b
    · rw [if_pos h', decide_eq_true h']; rfl
    · rw [if_neg h', decide_eq_false h']; rfl
  · rw [decide_eq_false (show ¬ ((a.length : Nat) : Int) = (b.length : Nat) by omega), decide_eq_false (fun k : a = b => h (by rw [k]))]
    rfl
noncomputable instance decSer (a b : Ser) : Decidable (a = b) := Classical.propDecidable _
structure SerM (s : Ser) : Prop where
  l : s.1.length ≤ 9223372036854775807
  r : s.2.2.1.2.2.length ≤ 9223372036854775807
  a : s.2.2.2.1.1.length ≤ 9223372036854775807
  b : s.2.2.2.1.2.1.length ≤ 9223372036854775807
  d : s.2.2.2.1.2.2.length ≤ 9223372036854775807
theorem series_same (n : Nat) (a b : Ser) (h : SerM a) : series_Same (n + 3) a b = some (decide (a = b)) := by
  rw [series_Same_eq, label_Same_eq, raw_Same_eq, eq_slices_Equal_Label n _ _ h.l, eq_slices_Equal_Event n _ _ h.r, eq_slices_Equal_Slot (n + 1) _ _ h.a, eq_slices_Equal_Slot (n + 1) _ _ h.b, eq_slices_Equal_Slot (n + 1) _ _ h.d]
  obtain ⟨a1, a2, ⟨r1, r2, r3⟩, ⟨t1, t2, t3⟩, a5⟩ := a
  obtain ⟨b1, b2, ⟨q1, q2, q3⟩, ⟨u1, u2, u3⟩, b5⟩ := b
  simp only [obind_some, sloEq, tif_dec]
  by_cases h1 : a1 = b1
  case neg => simp [h1]
  by_cases h2 : a2 = b2
  case neg => simp [h1, h2]
  by_cases h3 : r1 = q1
  case neg => simp [h1, h2, h3]
  by_cases h4 : r2 = q2
  case neg => simp [h1, h2, h3, h4]
  by_cases h5 : r3 = q3
  case neg => simp [h1, h2, h3, h4, h5]
  by_cases h6 : t1 = u1
  case neg => simp [h1, h2, h3, h4, h5, h6]
  by_cases h7 : t2 = u2
  case neg => simp [h1, h2, h3, h4, h5, h6, h7]
  by_cases h8 : t3 = u3
  case neg => simp [h1, h2, h3, h4, h5, h6, h7, h8]
  by_cases h9 : a5 = b5
  case neg => simp [h1, h2, h3, h4, h5, h6, h7, h8, h9]
  simp [h1, h2, h3, h4, h5, h6, h7, h8, h9]
end Go.Proofs.YthjnbidgliejkaaGreat

namespace Go.Proofs.YthjnbidgliejkaaGreat
open Go.Flat Go.Plim
set_option linter.unusedVariables false
set_option linter.unusedSimpArgs false
/-- the oldest window that is kept at a time -/
def oldV (now w m : Int) : Int × Int := if OfP now w ∧ 1 ≤ m ∧ m ≤ 4096 then (if 0 < now / w + 1 - m then now / w + 1 - m else 0, 0) else (0, 1)
theorem window_oldest (n : Nat) (now w m : Int) : window_Oldest (n + 4) now w m = some (oldV now w m) := by
  rw [window_Oldest_eq, window_of n now w, window_in_int_eq]
  unfold oldV
  by_cases h : OfP now w
  case neg => rw [if_neg h, if_neg (fun k => h k.1)]; rfl
  rw [if_pos h]
  have hq := quo_range h
  simp only [obind_some, decide_true, Bool.not_true, tif_false]
  by_cases h1 : 1 ≤ m
  case neg => simp [h, h1]
  by_cases h2 : m ≤ 4096
  case neg => simp [h, h1, h2]
  rw [w64 (x := now / w + 1) (by omega) (by omega), w64 (x := now / w + 1 - m) (by omega) (by omega)]
  simp [h, h1, h2]
noncomputable def goneV (t now w m : Int) : Bool := decide (OfP t w ∧ (oldV now w m).2 = 0 ∧ t / w < (oldV now w m).1)
theorem window_gone (n : Nat) (t now w m : Int) : window_Gone (n + 5) t now w m = some (goneV t now w m) := by
  rw [window_Gone_eq, window_of (n + 1) t w, window_oldest n now w m]
  unfold goneV
  simp only [obind_some, tif_dec]
  by_cases h : OfP t w
  case neg => rw [if_neg h, if_neg (by simp), decide_eq_false (fun k => h k.1)]
  rw [if_pos h, if_pos rfl]
  by_cases h1 : (oldV now w m).2 = 0
  · rw [if_pos h1]; exact congrArg some (decide_eq_decide.2 ⟨fun k => ⟨h, h1, k⟩, fun k => k.2.2⟩)
  · rw [if_neg h1, decide_eq_false (fun k => h1 k.2.1)]
noncomputable def deadV (c : Conf) (last now : Int) : Bool :=
  decide (OkC c) && (goneV last now c.2.1.1 c.2.2.1.1 && (goneV last now c.2.1.2.1 c.2.2.1.2.1 && goneV last now c.2.1.2.2 c.2.2.1.2.2))
theorem series_dead (n : Nat) (c : Conf) (last now : Int) : series_Dead (n + 6) c last now = some (deadV c last now) := by
  rw [series_Dead_eq, conf_check (n + 2) c, window_gone n, window_gone n, window_gone n]
  unfold deadV
  by_cases h : OkC c
  case neg => rw [if_neg h, decide_eq_false h]; rfl
  rw [if_pos h, decide_eq_true h]
  simp only [obind_some, decide_true, tif_true, Bool.true_and]
  cases goneV last now c.2.1.1 c.2.2.1.1 <;> cases goneV last now c.2.1.2.1 c.2.2.1.2.1 <;> cases goneV last now c.2.1.2.2 c.2.2.1.2.2 <;> rfl
/-! ### a new one -/
noncomputable def newV (c : Conf) (l : List Lab) : Ser × Int :=
  if OkC c then (if LabOk l then ((l, (-1, (r0w, (emp c, s0)))), 0) else (ser0, 8)) else (ser0, 2)
theorem clone_label (n : Nat) (l : List Lab) (h : l.length ≤ 1000000) : slices_Clone_Label (n + 1) l = some l := by
  rw [slices_Clone_Label_eq, decide_eq_true (show (0 + l.length) * 32 ≤ 140737488355328 by omega)]
  simp only [tif_true, List.nil_append]
  by_cases h0 : l.length = 0
  · rw [decide_eq_true h0, tif_true, List.length_eq_zero_iff.1 h0, both_same]
  · rw [decide_eq_false h0, tif_false]
theorem series_new (n : Nat) (c : Conf) (l : List Lab) : series_New (n + 7) c l = some (newV c l) := by
  rw [series_New_eq, conf_check (n + 3) c, label_check n l]
  unfold newV
  by_cases h : OkC c
  case neg => rw [if_neg h, if_neg h]; rfl
  rw [if_pos h, if_pos h]
  simp only [obind_some, decide_true, Bool.not_true, tif_false]
  by_cases h1 : LabOk l
  case neg => rw [if_neg h1, if_neg h1]; rfl
  rw [if_pos h1, if_pos h1, clone_label (n + 5) l (by have := h1.n1; omega), fold_empty (n + 2) c]
  rfl
end Go.Proofs.YthjnbidgliejkaaGreat

namespace Go.Proofs.YthjnbidgliejkaaGreat
open Go.Flat Go.Plim
set_option linter.unusedVariables false
set_option linter.unusedSimpArgs false
abbrev Sta := Conf × (Int × (Int × List Ser))
structure StaW (s : Sta) : Prop where
  len : s.2.2.2.length ≤ 9223372036854775807
  ser : ∀ x ∈ s.2.2.2, SerW x ∧ SerM x
def Whole (s : Sta) : Prop := OkC s.1 ∧ (s.2.2.2.length : Int) = s.1.2.2.2.1
noncomputable instance (s) : Decidable (Whole s) := Classical.propDecidable _
/-- a series that lives, by a state's sweep -/
def LvX (s : Sta) (x : Ser) : Prop := x ≠ ser0 ∧ (s.2.2.1 = -1 ∨ deadV s.1 x.2.1 s.2.2.1 = false)
noncomputable instance (s x) : Decidable (LvX s x) := Classical.propDecidable _
def TimeP (t : Int) : Prop := 0 ≤ t ∧ t < 35184372088832
instance (t) : Decidable (TimeP t) := by unfold TimeP; infer_instance
def Clock (s : Sta) : Prop := TimeP s.2.1 ∧ (s.2.2.1 = -1 ∨ TimeP s.2.2.1) ∧ s.2.2.1 ≤ s.2.1
instance (s) : Decidable (Clock s) := by unfold Clock; infer_instance
/-- where the open window begins -/
def mk (s : Sta) : Int := s.2.1 / s.1.2.1.1 * s.1.2.1.1
/-- its labels are those of one that lives ahead of it -/
def Twin (s : Sta) (i : Nat) (x : Ser) : Prop := LvX s x ∧ ∃ k, k < i ∧ ∃ y, s.2.2.2[k]? = some y ∧ LvX s y ∧ y.1 = x.1
noncomputable instance (s i x) : Decidable (Twin s i x) := Classical.propDecidable _
def RightX (s : Sta) (i : Nat) (x : Ser) : Prop := x = ser0 ∨ (SerOk s.1 x ∧ 0 ≤ x.2.1 ∧ x.2.1 < mk s + s.1.2.1.1 ∧ ¬ Twin s i x)
noncomputable instance (s i x) : Decidable (RightX s i x) := Classical.propDecidable _
structure StaOk (s : Sta) : Prop where
  whole : Whole s
  clock : Clock s
  right : ∀ (i : Nat) x, s.2.2.2[i]? = some x → RightX s i x
noncomputable instance (s) : Decidable (StaOk s) := Classical.propDecidable _
theorem Whole.len {s : Sta} (h : Whole s) : s.2.2.2.length ≤ 65536 := by
  have := h.1.rng.cap; have := h.2; omega
theorem at_el {α : Type} {l : List α} {i : Nat} {x : α} (h : l[i]? = some x) : at? l (i : Int) = some x := by
  unfold at?
  rw [decide_eq_true (show (0 : Int) ≤ (i : Int) by omega), Int.toNat_natCast]
  exact h
theorem StaW.at {s : Sta} (h : StaW s) {i : Nat} {x : Ser} (hx : s.2.2.2[i]? = some x) : SerW x ∧ SerM x := h.ser x (List.mem_of_getElem? hx)
/-! ### one place -/
theorem st_empty (n : Nat) {x : Ser} (h : SerM x) : state_empty (n + 4) x = some (decide (x = ser0)) := by
  have := series_same n x ser0 h
  rw [state_empty_eq]
  have e : series_Same (n + 3) x ([], ((0 : Int), (((0 : Int), ((0 : Int), [])), (([], ([], [])), ((0 : Int), z0))))) = some (decide (x = ser0)) := this
  change obind (series_Same (n + 3) x ([], ((0 : Int), (((0 : Int), ((0 : Int), [])), (([], ([], [])), ((0 : Int), z0)))))) _ = _
  rw [e]; rfl
theorem st_lives (n : Nat) {s : Sta} {i : Nat} {x : Ser} (hx : s.2.2.2[i]? = some x) (hm : SerM x) : state_view_lives (n + 7) s (i : Int) = some (decide (LvX s x)) := by
  rw [state_view_lives_eq, at_el hx, obind_some, st_empty (n + 2) hm, obind_some, tif_not, tif_dec, series_dead n]
  by_cases h : x = ser0
  · rw [if_pos h, decide_eq_false (fun k : LvX s x => k.1 h)]
  rw [if_neg h, tif_dec]
  by_cases h1 : s.2.2.1 = -1
  · rw [if_pos h1, decide_eq_true (show LvX s x from ⟨h, .inl h1⟩)]
  · rw [if_neg h1]
    cases hd : deadV s.1 x.2.1 s.2.2.1
    · rw [decide_eq_true (show LvX s x from ⟨h, .inr hd⟩)]; rfl
    · rw [decide_eq_false (fun k : LvX s x => by rcases k.2 with k | k; exact h1 k; rw [hd] at k; cases k)]; rfl
/-! ### the first place that is so -/
theorem place_l (n : Nat) (is : (Int × Unit) → Option Bool) (p : Nat → Bool) (L : Nat) (hL : L ≤ 1000000) (his : ∀ k : Nat, k < L → is ((k : Int), ()) = some (p k)) : ∀ (d k f : Nat), k + d = L → d < f →
    (∃ m : Nat, k ≤ m ∧ m < L ∧ p m = true ∧ (∀ j, k ≤ j → j < m → p j = false) ∧ state_view_place_l2 n f (is, (L : Int), (k : Int), ()) = some (.inr (m : Int))) ∨
    ((∀ j, k ≤ j → j < L → p j = false) ∧ state_view_place_l2 n f (is, (L : Int), (k : Int), ()) = some (.inl ())) := by
  intro d
  induction d with
  | zero =>
    intro k f hk hf
    obtain ⟨f, rfl⟩ : ∃ g, f = g + 1 := ⟨f - 1, by omega⟩
    refine .inr ⟨fun j h1 h2 => by omega, ?_⟩
    rw [state_view_place_l2_eq, decide_eq_false (by omega), tif_false]
  | succ d ih =>
    intro k f hk hf
    obtain ⟨f, rfl⟩ : ∃ g, f = g + 1 := ⟨f - 1, by omega⟩
    rw [state_view_place_l2_eq, decide_eq_true (by omega), tif_true, his k (by omega), obind_some]
    cases hp : p k
    · rw [tif_false, w64 (by omega) (by omega), show ((k : Int) + 1) = ((k + 1 : Nat) : Int) by omega]
      rcases ih (k + 1) f (by omega) (by omega) with ⟨m, h1, h2, h3, h4, h5⟩ | ⟨h1, h2⟩
      · exact .inl ⟨m, by omega, h2, h3, fun j q1 q2 => by
          rcases Nat.lt_or_ge k j with q | q
          · exact h4 j (by omega) q2
          · rw [show j = k by omega]; exact hp, h5⟩
      · exact .inr ⟨fun j q1 q2 => by
          rcases Nat.lt_or_ge k j with q | q
          · exact h1 j (by omega) q2
          · rw [show j = k by omega]; exact hp, h2⟩
    · rw [tif_true]
      exact .inl ⟨k, Nat.le_refl _, by omega, hp, fun j q1 q2 => by omega, rfl⟩
theorem first_val (n : Nat) (s : Sta) (is : (Int × Unit) → Option Bool) (p : Nat → Bool) (hL : s.2.2.2.length ≤ 1000000) (his : ∀ k : Nat, k < s.2.2.2.length → is ((k : Int), ()) = some (p k)) :
    (∃ m : Nat, m < s.2.2.2.length ∧ p m = true ∧ (∀ j, j < m → p j = false) ∧ state_view_place (n + 1) s is = some (m : Int)) ∨
    ((∀ j, j < s.2.2.2.length → p j = false) ∧ state_view_place (n + 1) s is = some (-1)) := by
  rw [state_view_place_eq]
  rcases place_l n is p _ hL his s.2.2.2.length 0 loopFuel (by omega) (by unfold loopFuel; omega) with ⟨m, h1, h2, h3, h4, h5⟩ | ⟨h1, h2⟩
  · refine .inl ⟨m, h2, h3, fun j q => h4 j (by omega) q, ?_⟩
    have h5' : state_view_place_l2 n loopFuel (is, (s.2.2.2.length : Int), (0 : Int), ()) = some (.inr (m : Int)) := h5
    rw [h5']; rfl
  · refine .inr ⟨fun j q => h1 j (by omega) q, ?_⟩
    have h2' : state_view_place_l2 n loopFuel (is, (s.2.2.2.length : Int), (0 : Int), ()) = some (.inl ()) := h2
    rw [h2']; rfl
/-! ### twins -/
theorem label_same (n : Nat) (a b : List Lab) (h : a.length ≤ 9223372036854775807) : label_Same (n + 2) a b = some (decide (a = b)) := by
  rw [label_Same_eq, eq_slices_Equal_Label n a b h]; rfl
def IsTw (s : Sta) (i k : Nat) (x : Ser) : Prop := k = i ∨ ∃ y, s.2.2.2[k]? = some y ∧ LvX s y ∧ y.1 = x.1
noncomputable instance (s i k x) : Decidable (IsTw s i k x) := Classical.propDecidable _
theorem st_twin (n : Nat) {s : Sta} (hw : StaW s) (hL : s.2.2.2.length ≤ 1000000) {i : Nat} {x : Ser} (hx : s.2.2.2[i]? = some x) : state_view_twin (n + 9) s (i : Int) = some (decide (Twin s i x)) := by
  have hil : i < s.2.2.2.length := (List.getElem?_eq_some_iff.1 hx).1
  have hm := (hw.at hx).2
  rw [state_view_twin_eq]
  have his : ∀ k : Nat, k < s.2.2.2.length → (fun y0 : Int × Unit => state_view_twin_1 (n + 8) y0.1 (i : Int) s) ((k : Int), ()) = some (decide (IsTw s i k x)) := by
    intro k hk
    have hy : s.2.2.2[k]? = some s.2.2.2[k] := List.getElem?_eq_getElem hk
    generalize s.2.2.2[k] = y at hy
    have hmy := (hw.at hy).2
    show state_view_twin_1 (n + 8) (k : Int) (i : Int) s = _
    rw [state_view_twin_1_eq, tif_dec, st_lives n hy hmy, obind_some, at_el hy, obind_some, at_el hx, obind_some, label_same (n + 5) _ _ hmy.l, obind_some, tif_dec]
    by_cases h1 : k = i
    · rw [if_pos (by rw [h1]), decide_eq_true (show IsTw s i k x from .inl h1)]
    rw [if_neg (by omega)]
    by_cases h2 : LvX s y
    · rw [if_pos h2]
      refine congrArg some (decide_eq_decide.2 ⟨fun h3 => .inr ⟨y, hy, h2, h3⟩, fun h3 => ?_⟩)
      rcases h3 with h3 | ⟨z, z1, z2, z3⟩
      · exact absurd h3 h1
      · rw [hy] at z1; cases z1; exact z3
    · rw [if_neg h2, decide_eq_false]
      rintro (h3 | ⟨z, z1, z2, z3⟩)
      · exact h1 h3
      · rw [hy] at z1; cases z1; exact h2 z2
  rcases first_val (n + 7) s (fun y0 : Int × Unit => state_view_twin_1 (n + 8) y0.1 (i : Int) s) (fun k => decide (IsTw s i k x)) hL his with ⟨m, h1, h2, h3, h4⟩ | ⟨h1, h2⟩
  · rw [h4, obind_some, tif_dec, st_lives (n + 1) hx hm]
    have h2 := of_decide_eq_true h2
    have hmi : m ≤ i := by
      rcases Nat.lt_or_ge i m with q | q
      · have := of_decide_eq_false (h3 i q); exact absurd (.inl rfl) this
      · exact q
    by_cases q : m < i
    · rw [if_pos (by omega), obind_some]
      refine congrArg some (decide_eq_decide.2 ⟨fun k => ⟨k, m, q, ?_⟩, fun k => k.1⟩)
      exact h2.resolve_left (by omega)
    · rw [if_neg (by omega), decide_eq_false]
      rintro ⟨k1, k, k2, k3⟩
      exact of_decide_eq_false (h3 k (by omega)) (.inr k3)
  · exact absurd (.inl rfl) (of_decide_eq_false (h1 i hil))
/-! ### right places -/
theorem mk_range {s : Sta} (h : TimeP s.2.1) (hw : 1 ≤ s.1.2.1.1 ∧ s.1.2.1.1 ≤ 1099511627776) : 0 ≤ mk s ∧ mk s ≤ s.2.1 ∧ s.2.1 < mk s + s.1.2.1.1 ∧ s.2.1 - s.2.1 % s.1.2.1.1 = mk s := by
  have e := Int.mul_ediv_add_emod s.2.1 s.1.2.1.1
  have e1 := Int.emod_nonneg s.2.1 (show s.1.2.1.1 ≠ 0 by omega)
  have e2 := Int.emod_lt_of_pos s.2.1 (show 0 < s.1.2.1.1 by omega)
  rw [Int.mul_comm] at e
  have e3 : 0 ≤ mk s := Int.mul_nonneg (Int.ediv_nonneg h.1 (by omega)) (by omega)
  unfold mk at *
  exact ⟨e3, by omega, by omega, by omega⟩
theorem st_mark (n : Nat) {s : Sta} (h : TimeP s.2.1) (hw : 1 ≤ s.1.2.1.1 ∧ s.1.2.1.1 ≤ 1099511627776) : state_view_mark (n + 1) s = some (mk s) := by
  have := mk_range h hw
  have := h.1; have := h.2
  rw [state_view_mark_eq, tif_dec, if_neg (by omega), tmod_nn h.1, w64 (by omega) (by omega), (mk_range h hw).2.2.2]
theorem st_right (n : Nat) {s : Sta} (hw : StaW s) (hh : Whole s) (ht : TimeP s.2.1) {i : Nat} {x : Ser} (hx : s.2.2.2[i]? = some x) : state_view_right (n + 12) s (i : Int) = some (decide (RightX s i x)) := by
  have hm := hw.at hx
  have hr := hh.1.rng
  have hL := hh.len
  have hmk := mk_range ht hr.w0
  have ht1 := ht.1; have ht2 := ht.2; have hw0 := hr.w0
  obtain ⟨m1, m2, m3, m4⟩ := hmk
  rw [state_view_right_eq, at_el hx, obind_some, st_empty (n + 7) hm.2, obind_some, tif_dec, series_check n s.1 hm.1, obind_some, st_mark (n + 10) ht hr.w0, obind_some, w64 (by omega) (by omega), st_twin (n + 2) hw (by omega) hx, obind_some]
  simp only [tif_dec]
  by_cases h0 : x = ser0
  · rw [if_pos h0, decide_eq_true (show RightX s i x from .inl h0)]
  rw [if_neg h0]
  by_cases h1 : SerOk s.1 x
  case neg => rw [if_neg h1, if_neg (by decide), decide_eq_false (fun q : RightX s i x => by rcases q with k | k; exact h0 k; exact h1 k.1)]
  rw [if_pos h1, if_pos rfl]
  by_cases h2 : 0 ≤ x.2.1
  case neg => rw [if_neg h2, decide_eq_false (fun q : RightX s i x => by rcases q with k | k; exact h0 k; exact h2 k.2.1)]
  rw [if_pos h2]
  by_cases h3 : x.2.1 < mk s + s.1.2.1.1
  case neg => rw [if_neg h3, decide_eq_false (fun q : RightX s i x => by rcases q with k | k; exact h0 k; exact h3 k.2.2.1)]
  rw [if_pos h3]
  by_cases h4 : Twin s i x
  · rw [decide_eq_true h4, decide_eq_false (fun q : RightX s i x => by rcases q with k | k; exact h0 k; exact k.2.2.2 h4)]; rfl
  · rw [decide_eq_false h4, decide_eq_true (show RightX s i x from .inr ⟨h1, h2, h3, h4⟩)]; rfl
/-! ### whole, at a time -/
def sta0 : Sta := (((0 : Int), (((0 : Int), ((0 : Int), (0 : Int))), (((0 : Int), ((0 : Int), (0 : Int))), ((0 : Int), (0 : Int))))), ((0 : Int), ((0 : Int), [])))
theorem st_open (n : Nat) (s : Sta) : state_open (n + 4) s = some (if Whole s then (s, 0) else (sta0, 2)) := by
  rw [state_open_eq, conf_check n s.1, obind_some, tif_not, tif_dec, tif_not, tif_dec]
  by_cases h : OkC s.1
  case neg => rw [if_neg h, if_neg (show ¬ ((2 : Int) = 0) by decide), if_neg (fun k : Whole s => h k.1)]; rfl
  rw [if_pos h, if_pos rfl]
  by_cases h1 : (s.2.2.2.length : Int) = s.1.2.2.2.1
  · rw [if_pos h1, if_pos (show Whole s from ⟨h, h1⟩)]
  · rw [if_neg h1, if_neg (fun k : Whole s => h1 k.2)]; rfl
theorem st_time (n : Nat) (t : Int) : state_time (n + 1) t = some (decide (TimeP t)) := by
  rw [state_time_eq, tif_dec]
  by_cases h : 0 ≤ t
  · rw [if_pos h]; exact congrArg some (decide_eq_decide.2 ⟨fun k => ⟨h, k⟩, fun k => k.2⟩)
  · rw [if_neg h, decide_eq_false (fun k : TimeP t => h k.1)]
theorem st_clock (n : Nat) (s : Sta) : state_view_clock (n + 2) s = some (decide (Clock s)) := by
  rw [state_view_clock_eq, st_time n, st_time n, obind_some, obind_some]
  simp only [tif_dec]
  by_cases h : TimeP s.2.1
  case neg => rw [if_neg h, decide_eq_false (fun k : Clock s => h k.1)]
  rw [if_pos h]
  by_cases h1 : s.2.2.1 = -1
  · rw [if_pos h1]; exact congrArg some (decide_eq_decide.2 ⟨fun k => ⟨h, .inl h1, k⟩, fun k => k.2.2⟩)
  rw [if_neg h1]
  by_cases h2 : TimeP s.2.2.1
  · rw [if_pos h2]; exact congrArg some (decide_eq_decide.2 ⟨fun k => ⟨h, .inr h2, k⟩, fun k => k.2.2⟩)
  · rw [if_neg h2, decide_eq_false (fun k : Clock s => by rcases k.2.1 with q | q; exact h1 q; exact h2 q)]
def Wrong (s : Sta) (k : Nat) : Prop := ∃ x, s.2.2.2[k]? = some x ∧ ¬ RightX s k x
noncomputable instance (s k) : Decidable (Wrong s k) := Classical.propDecidable _
theorem state_check (n : Nat) {s : Sta} (hw : StaW s) : state_Check (n + 14) s = some (if StaOk s then 0 else 2) := by
  rw [state_Check_eq, st_open (n + 9) s, obind_some, tif_not, tif_dec]
  by_cases h : Whole s
  case neg => rw [if_neg h, if_neg (show ¬ ((sta0, (2 : Int)).2 = 0) by decide), if_neg (fun k : StaOk s => h k.whole)]
  rw [if_pos h, if_pos rfl, st_clock (n + 11) s, obind_some, tif_not, tif_dec]
  by_cases h1 : Clock s
  case neg => rw [if_neg h1, if_neg (fun k : StaOk s => h1 k.clock)]
  rw [if_pos h1]
  have hL := h.len
  have his : ∀ k : Nat, k < s.2.2.2.length → (fun y2 : Int × Unit => state_Check_1 (n + 13) y2.1 s) ((k : Int), ()) = some (decide (Wrong s k)) := by
    intro k hk
    have hy : s.2.2.2[k]? = some s.2.2.2[k] := List.getElem?_eq_getElem hk
    generalize s.2.2.2[k] = y at hy
    show state_Check_1 (n + 13) (k : Int) s = _
    rw [state_Check_1_eq, st_right n hw h h1.1 hy, obind_some]
    by_cases q : RightX s k y
    · rw [decide_eq_true q, decide_eq_false (fun z : Wrong s k => by obtain ⟨x, x1, x2⟩ := z; rw [hy] at x1; cases x1; exact x2 q)]; rfl
    · rw [decide_eq_false q, decide_eq_true (show Wrong s k from ⟨y, hy, q⟩)]; rfl
  rcases first_val (n + 12) s (fun y2 : Int × Unit => state_Check_1 (n + 13) y2.1 s) (fun k => decide (Wrong s k)) (by omega) his with ⟨m, q1, q2, q3, q4⟩ | ⟨q1, q2⟩
  · rw [show (fun y2 : Int × Unit => state_Check_1 (n + 13) y2.1 (s, (0 : Int)).1) = fun y2 : Int × Unit => state_Check_1 (n + 13) y2.1 s from rfl]
    obtain ⟨x, x1, x2⟩ := of_decide_eq_true q2
    rw [q4, obind_some, tif_dec, if_pos (by omega), if_neg (fun k : StaOk s => x2 (k.right m x x1))]
  · rw [show (fun y2 : Int × Unit => state_Check_1 (n + 13) y2.1 (s, (0 : Int)).1) = fun y2 : Int × Unit => state_Check_1 (n + 13) y2.1 s from rfl]
    rw [q2, obind_some, tif_dec, if_neg (by decide), if_pos]
    refine ⟨h, h1, fun i x hx => ?_⟩
    have := of_decide_eq_false (q1 i (List.getElem?_eq_some_iff.1 hx).1)
    exact Decidable.byContradiction fun k => this ⟨x, hx, k⟩
end Go.Proofs.YthjnbidgliejkaaGreat

namespace Go.Proofs.YthjnbidgliejkaaGreat
open Go.Flat Go.Plim
set_option linter.unusedVariables false
set_option linter.unusedSimpArgs false
/-! ### a state is the same as itself -/
theorem confEq (a b : Conf) : ((decide (a.1 = b.1)) && ((decide (a.2.1.1 = b.2.1.1)) && ((decide (a.2.1.2.1 = b.2.1.2.1)) && ((decide (a.2.1.2.2 = b.2.1.2.2)) && ((decide (a.2.2.1.1 = b.2.2.1.1)) && ((decide (a.2.2.1.2.1 = b.2.2.1.2.1)) && ((decide (a.2.2.1.2.2 = b.2.2.1.2.2)) && ((decide (a.2.2.2.1 = b.2.2.2.1)) && (decide (a.2.2.2.2 = b.2.2.2.2)))))))))) = decide (a = b) := by
  rw [Bool.eq_iff_iff]; simp [Prod.ext_iff, and_assoc]
/-! ### small ones -/
theorem small17_l4 (n : Nat) (l : List Ser) (hL : l.length ≤ 1000000) (hm : ∀ x ∈ l, SerM x) : ∀ (rest pre : List Ser) (f : Nat) (ix len : Int), l = pre ++ rest → ix = pre.length → len = l.length → rest.length < f →
    l17_Small_l4 (n + 2) f (l, len, ix, ()) = some (.inl ()) ∨ l17_Small_l4 (n + 2) f (l, len, ix, ()) = some (.inr 0) := by
  intro rest
  induction rest with
  | nil =>
    intro pre f ix len hl hi hn hf
    obtain ⟨f, rfl⟩ : ∃ g, f = g + 1 := ⟨f - 1, by simp at hf; omega⟩
    left
    rw [l17_Small_l4_eq]
    simp only [tif_dec, if_neg (idxe hl hi hn)]
  | cons x rest ih =>
    intro pre f ix len hl hi hn hf
    obtain ⟨f, rfl⟩ : ∃ g, f = g + 1 := ⟨f - 1, by simp at hf; omega⟩
    have hx : SerM x := hm x (by rw [hl]; simp)
    rw [l17_Small_l4_eq]
    simp only [tif_dec, if_pos (idx hl hi hn), at_mid hl hi, obind_some, idxw hl hi (show l.length ≤ 1000000000000 by omega)]
    rcases l15_small n x hx.l with h | h
    · rw [h]; right; rfl
    · rw [h]
      simp only [obind_some, if_neg (show ¬ ((1 : Int) = 0) by decide)]
      exact ih (pre ++ [x]) f (ix + 1) len (idxl hl) (idxs hi) hn (by simp at hf; omega)
theorem l17_small (n : Nat) {s : Sta} (hw : StaW s) : l17_Small (n + 3) s = some 0 ∨ (l17_Small (n + 3) s = some 1 ∧ s.2.2.2.length ≤ 8) := by
  rw [l17_Small_eq]
  simp only [tif_dec]
  by_cases h : (8 : Int) < (s.2.2.2.length : Int)
  · rw [if_pos h]; exact .inl rfl
  · rw [if_neg h]
    rcases small17_l4 n s.2.2.2 (by omega) (fun x hx => (hw.ser x hx).2) s.2.2.2 [] loopFuel 0 _ rfl rfl rfl (by unfold loopFuel; omega) with h1 | h1
    · rw [h1]; exact .inr ⟨rfl, by omega⟩
    · rw [h1]; exact .inl rfl
theorem ser_m' {s : Ser} (h : Wf tySeries s) : SerM s := by
  obtain ⟨h1, h2, h3, ⟨h4, h5, h6⟩, h7⟩ := h
  have e1 := h1.1; have e3 := h3.2.2.1; have e4 := h4.1; have e5 := h5.1; have e6 := h6.1
  simp only [maxLen] at e1 e3 e4 e5 e6
  exact ⟨e1, e3, e4, e5, e6⟩
theorem sta_wf {s : Sta} (h : Wf tyState s) : StaW s := by
  obtain ⟨h1, h2, h3, h4⟩ := h
  have e := h4.1
  simp only [maxLen] at e
  exact ⟨e, fun x hx => ⟨ser_wf (h4.2 x hx), ser_m' (h4.2 x hx)⟩⟩
end Go.Proofs.YthjnbidgliejkaaGreat

namespace Go.Proofs.YthjnbidgliejkaaGreat
open Go.Flat Go.Plim
set_option linter.unusedVariables false
/-- three tiers and the open slot, behind events -/
def OpenInv (c : Conf) (s : Trs) (o : Slo) (l : List Ev) : Prop :=
  (l = [] ∧ o = s0 ∧ ∀ t, FInv c s [] t) ∨ ∃ t, EndsAt l t ∧ FInv c s l t ∧ o = (t / c.2.1.1, cellOf (win c.2.1.1 l (t / c.2.1.1)))
theorem emp_inv {c : Conf} (h : OkC c) : OpenInv c (emp c) s0 [] := by
  have hr := h.rng
  have n0 := hr.n0; have n1 := hr.n1; have n2 := hr.n2
  refine .inl ⟨rfl, rfl, fun t => ?_⟩
  have e : emp c = (List.replicate c.2.2.1.1.toNat s0, (List.replicate c.2.2.1.2.1.toNat s0, List.replicate c.2.2.1.2.2.toNat s0)) := if_pos h
  have i0 : TierInv (List.replicate c.2.2.1.1.toNat s0) c.2.1.1 [] := tierInv_nil (by omega) (by omega) hr.w0.1 hr.w0.2
  have i1 : TierInv (List.replicate c.2.2.1.2.1.toNat s0) c.2.1.2.1 [] := tierInv_nil (by omega) (by omega) hr.w1.1 hr.w1.2
  have i2 : TierInv (List.replicate c.2.2.1.2.2.toNat s0) c.2.1.2.2 [] := tierInv_nil (by omega) (by omega) hr.w2.1 hr.w2.2
  rw [e]
  exact ⟨⟨h, by simp; omega, by simp; omega, by simp; omega, i0.ok, i1.ok, i2.ok⟩, i0, i1, i2⟩
theorem OpenInv.fold {c : Conf} {s : Trs} {o : Slo} {l : List Ev} (h : OpenInv c s o l) : FoldOk c s := by
  rcases h with ⟨_, _, h⟩ | ⟨t, _, h, _⟩
  · exact (h 0).ok
  · exact h.ok
theorem ev_begins {e : Ev} (h : EvOk e) {w : Int} (hw : 1 ≤ w) : Begins w (e.1 / w) := div_begins hw ⟨h.t0, by have := h.t1; omega⟩
end Go.Proofs.YthjnbidgliejkaaGreat

namespace Go.Proofs.YthjnbidgliejkaaGreat
open Go.Flat Go.Plim
set_option linter.unusedVariables false
set_option linter.unusedSimpArgs false
/-! ### raw events that are kept -/
def rawOf (room : Int) (l : List Ev) : Rw :=
  (if (l.length : Int) ≤ room then 0 else (l.length : Int) - room, (if (l.length : Int) ≤ room then 0 else ((l[l.length - room.toNat - 1]?).getD e0).1, l.drop (l.length - room.toNat)))
theorem rawOf_len {room : Int} (h : 1 ≤ room) (l : List Ev) : ((rawOf room l).2.2.length : Int) = if (l.length : Int) ≤ room then (l.length : Int) else room := by
  simp only [rawOf, List.length_drop]
  split <;> omega
theorem rawOf_last {room : Int} (h : 1 ≤ room) (l : List Ev) : (rawOf room l).2.2.getLast? = l.getLast? := by
  simp only [rawOf, List.getLast?_drop]
  by_cases h0 : l = []
  · subst h0; simp
  · have : 0 < l.length := List.length_pos_iff.2 h0
    rw [if_neg (by omega)]
theorem rawOf_ok {room : Int} (h : 1 ≤ room ∧ room ≤ 4096) {l : List Ev} (hl : Foll l) (hL : l.length ≤ 1000000) : RawOk (rawOf room l) room := by
  have hlen := rawOf_len h.1 l
  refine ⟨h.1, h.2, by rw [hlen]; split <;> omega, ?_, ?_, ?_, ?_, ?_⟩
  · simp only [rawOf]; split <;> omega
  · simp only [rawOf]; split <;> omega
  · exact hl.sub (List.drop_sublist _ _)
  · simp only [rawOf]
    intro k
    split
    · rfl
    · rename_i h1; rw [if_neg h1] at k; omega
  · intro k
    simp only [rawOf] at k hlen ⊢
    by_cases h1 : (l.length : Int) ≤ room
    · rw [if_pos h1] at k; exact absurd rfl k
    rw [if_neg h1] at hlen ⊢
    obtain ⟨d, hd⟩ : ∃ d, l.length - room.toNat = d + 1 := ⟨l.length - room.toNat - 1, by omega⟩
    rw [hd, show d + 1 - 1 = d by omega]
    have hdl : d < l.length := by omega
    have hdl' : d + 1 < l.length := by omega
    rw [List.getElem?_eq_getElem hdl]
    refine ⟨by rw [← hlen, hd], ((hl.ok _ (List.getElem_mem hdl)).t0), fun x hx => ?_⟩
    rw [List.head?_drop, List.getElem?_eq_getElem hdl'] at hx
    have := List.pairwise_iff_getElem.1 hl.inc d (d + 1) hdl hdl' (by omega)
    simp at hx
    rw [← hx]; exact this
/-! ### the series -/
structure SerInv (c : Conf) (s : Ser) (l : List Ev) : Prop where
  lab : LabOk s.1
  len : l.length ≤ 1000000
  raw : s.2.2.1 = rawOf c.1 l
  opn : OpenInv c s.2.2.2.1 s.2.2.2.2 l
  last : (l = [] ∧ s.2.1 = -1) ∨ EndsAt l s.2.1
theorem SerInv.foll {c : Conf} {s : Ser} {l : List Ev} (h : SerInv c s l) : Foll l := by
  rcases h.last with ⟨rfl, _⟩ | h
  · exact Foll.nil
  · exact h.foll
theorem ends_getLast {l : List Ev} {t : Int} (h : EndsAt l t) : ∃ e, l.getLast? = some e ∧ e.1 = t := by
  obtain ⟨x, hx, hxt⟩ := h.last
  rcases List.eq_nil_or_concat l with rfl | ⟨p, y, rfl⟩
  · cases hx
  rw [List.concat_eq_append] at *
  have h1 := h.le y (by simp)
  refine ⟨y, by simp, ?_⟩
  rcases List.mem_append.1 hx with q | q
  · have := (foll_append.1 h.foll).2.2 x q y (by simp); omega
  · simp at q; rw [← q]; exact hxt
theorem ends_uniq {l : List Ev} {t u : Int} (h : EndsAt l t) (k : EndsAt l u) : t = u := by
  obtain ⟨e, h1, h2⟩ := ends_getLast h
  obtain ⟨e', k1, k2⟩ := ends_getLast k
  rw [h1] at k1; simp at k1; rw [← h2, ← k2, k1]
theorem ends_ne {l : List Ev} {t : Int} (h : EndsAt l t) : l ≠ [] := by
  obtain ⟨x, hx, _⟩ := h.last
  exact List.ne_nil_of_mem hx
/-- the open window, if there is one -/
theorem SerInv.at_ {c : Conf} {s : Ser} {l : List Ev} (h : SerInv c s l) (hl : l ≠ []) : EndsAt l s.2.1 ∧ FInv c s.2.2.2.1 l s.2.1 ∧ s.2.2.2.2 = (s.2.1 / c.2.1.1, cellOf (win c.2.1.1 l (s.2.1 / c.2.1.1))) := by
  have he := h.last.resolve_left fun k => hl k.1
  rcases h.opn with k | ⟨t, k1, k2, k3⟩
  · exact absurd k.1 hl
  · have := ends_uniq he k1
    subst this
    exact ⟨he, k2, k3⟩
theorem tall_none {t : List Slo} {w : Int} (h : TierInv t w []) : tall t = [] := by
  cases hc : tall t with
  | nil => rfl
  | cons x r =>
    have hx : x ∈ tall t := by rw [hc]; simp
    have h1 := h.cells x hx
    have := (tall_fits h.ok hx).1.n.n1
    rw [h1] at this
    simp [win, cellOf, z0] at this
theorem behind_below {t : List Slo} {w u : Int} {l : List Ev} (h : TierInv t w (below w l u)) (hl : Foll l) : NoBehind t (u / w) := by
  rw [noBehind_iff h.ok]
  intro x hx
  have h1 := h.cells x hx
  have hn := (tall_fits h.ok hx).1.n
  have hne : win w (below w l u) x.1 ≠ [] := fun k => by
    rw [k] at h1
    exact hn.ne h1
  obtain ⟨e, he⟩ := List.exists_mem_of_ne_nil _ hne
  obtain ⟨k1, k2⟩ := mem_win.1 he
  have := of_decide_eq_true (List.mem_filter.1 k1).2
  omega
theorem cellOf_lastT {w T : Int} {l : List Ev} (he : EndsAt l T) : (cellOf (win w l (T / w))).2.2.1.1 = T := by
  obtain ⟨x, hx, hxt⟩ := he.last
  have hm : x ∈ win w l (T / w) := mem_win.2 ⟨hx, by rw [hxt]⟩
  have hw := win_foll (w := w) he.foll (T / w)
  have hh := cellOf_N hw (List.ne_nil_of_mem hm)
  have ew : EndsAt (win w l (T / w)) T := ⟨hw, fun y hy => he.le y (mem_win.1 hy).1, x, hm, hxt⟩
  obtain ⟨e, k1, k2⟩ := ends_getLast ew
  have := hh.last
  rw [k1] at this
  simp at this
  rw [← this, k2]
theorem serInv_ok {c : Conf} {s : Ser} {l : List Ev} (h : SerInv c s l) : SerOk c s := by
  have hf := h.opn.fold
  have hr := hf.cok.rng
  have hraw : RawOk s.2.2.1 c.1 := by rw [h.raw]; exact rawOf_ok hr.raw h.foll h.len
  refine ⟨hf, h.lab, hraw, ?_⟩
  by_cases hl : l = []
  · subst hl
    refine .inl ?_
    have hlast := h.last.resolve_right fun k => ends_ne k rfl
    rcases h.opn with ⟨_, k1, k2⟩ | ⟨t, k1, _⟩
    · have := k2 0
      exact ⟨hlast.2, by rw [h.raw]; simp [rawOf], k1, (noBehind0 this.ok.t0).2 (tall_none this.i0), (noBehind0 this.ok.t1).2 (tall_none this.i1), (noBehind0 this.ok.t2).2 (tall_none this.i2)⟩
    · exact absurd rfl (ends_ne k1)
  · obtain ⟨he, hi, ho⟩ := h.at_ hl
    obtain ⟨x, hx, hxt⟩ := he.last
    have := (he.foll.ok x hx).t0
    refine .inr ⟨by omega, ?_, ?_, ?_, behind_below hi.i0 he.foll, behind_below hi.i1 he.foll, behind_below hi.i2 he.foll⟩
    · rw [h.raw, rawOf_last hr.raw.1]; exact ends_getLast he
    · rw [ho]; exact cellOf_lastT he
    · rw [ho]; exact (tierInv_close he hi.i0).1
theorem serInv_w {c : Conf} {s : Ser} {l : List Ev} (h : SerInv c s l) : SerW s := by
  have hok := serInv_ok h
  refine ⟨?_, fun e he => EvW.of (hok.raw.f.ok e he), hok.fold.w, ?_⟩
  · by_cases hn : s.2.1 = -1
    · rw [hn]; unfold I64; omega
    · have := serOk_at hok hn; unfold I64; omega
  · rcases h.opn with ⟨_, k, _⟩ | ⟨t, he, hi, ho⟩
    · rw [k]; exact slow_s0
    · obtain ⟨x, hx, hxt⟩ := he.last
      have hxo := he.foll.ok x hx
      have := quo_ev_range hxo hi.ok.cok.rng.w0.1
      rw [hxt] at this
      rw [ho]
      exact ⟨by unfold I64; simp only; omega, .of (cellOf_ok (win_foll he.foll _))⟩
/-! ### what is told -/
theorem factor_pos {a b : Int} (ha : 1 ≤ a) (hb : 1 ≤ b) (hm : b % a = 0) : 0 < b / a := by
  rcases Int.lt_or_le 0 (b / a) with z | z
  · exact z
  · exfalso
    have e : a * (b / a) = b := by have := Int.mul_ediv_add_emod b a; omega
    have : a * (b / a) ≤ a * 0 := Int.mul_le_mul_of_nonneg_left z (by omega)
    omega
theorem new_inv {c : Conf} {l : List Lab} (h : OkC c) (hl : LabOk l) : SerInv c (l, (-1, (r0w, (emp c, s0)))) [] :=
  ⟨hl, by simp, by have := h.rng.raw; simp [rawOf, r0w]; omega, emp_inv h, .inl ⟨rfl, rfl⟩⟩
end Go.Proofs.YthjnbidgliejkaaGreat

namespace Go.Proofs.YthjnbidgliejkaaGreat
open Go.Flat Go.Plim
set_option linter.unusedVariables false
set_option linter.unusedSimpArgs false
/-! ### where -/
noncomputable def findV (s : Sta) (l : List Lab) : Option Nat := s.2.2.2.findIdx? fun x => decide (x.1 = l ∧ LvX s x)
noncomputable def roomV (s : Sta) : Option Nat := s.2.2.2.findIdx? fun x => decide (¬ LvX s x)
theorem findV_some {s : Sta} {l : List Lab} {i : Nat} : findV s l = some i ↔ ∃ x, s.2.2.2[i]? = some x ∧ x.1 = l ∧ LvX s x ∧ ∀ j, j < i → ∀ y, s.2.2.2[j]? = some y → ¬ (y.1 = l ∧ LvX s y) := by
  unfold findV
  rw [List.findIdx?_eq_some_iff_getElem]
  constructor
  · rintro ⟨h, h1, h2⟩
    have h1 := of_decide_eq_true h1
    refine ⟨_, List.getElem?_eq_getElem h, h1.1, h1.2, fun j hj y hy => ?_⟩
    obtain ⟨hjl, e⟩ := List.getElem?_eq_some_iff.1 hy
    have := h2 j hj
    rw [e] at this
    simpa using this
  · rintro ⟨x, hx, h1, h2, h3⟩
    obtain ⟨hl, e⟩ := List.getElem?_eq_some_iff.1 hx
    refine ⟨hl, by rw [e]; exact decide_eq_true ⟨h1, h2⟩, fun j hj => ?_⟩
    have := h3 j hj _ (List.getElem?_eq_getElem (by omega))
    simpa using this
theorem findV_none {s : Sta} {l : List Lab} : findV s l = none ↔ ∀ x ∈ s.2.2.2, ¬ (x.1 = l ∧ LvX s x) := by
  unfold findV
  rw [List.findIdx?_eq_none_iff]
  simp
theorem roomV_some {s : Sta} {i : Nat} : roomV s = some i ↔ ∃ x, s.2.2.2[i]? = some x ∧ ¬ LvX s x ∧ ∀ j, j < i → ∀ y, s.2.2.2[j]? = some y → LvX s y := by
  unfold roomV
  rw [List.findIdx?_eq_some_iff_getElem]
  constructor
  · rintro ⟨h, h1, h2⟩
    refine ⟨_, List.getElem?_eq_getElem h, of_decide_eq_true h1, fun j hj y hy => ?_⟩
    obtain ⟨hjl, e⟩ := List.getElem?_eq_some_iff.1 hy
    have := h2 j hj
    rw [e] at this
    simpa using this
  · rintro ⟨x, hx, h1, h3⟩
    obtain ⟨hl, e⟩ := List.getElem?_eq_some_iff.1 hx
    refine ⟨hl, by rw [e]; exact decide_eq_true h1, fun j hj => ?_⟩
    have := h3 j hj _ (List.getElem?_eq_getElem (by omega))
    simpa using this
theorem roomV_none {s : Sta} : roomV s = none ↔ ∀ x ∈ s.2.2.2, LvX s x := by
  unfold roomV
  rw [List.findIdx?_eq_none_iff]
  simp
/-! ### what is written -/
noncomputable def whereV (s : Sta) (l : List Lab) (e : Ev) : Int × (Bool × Int) :=
  if ¬ StaOk s then (0, (false, 2)) else if ¬ LabOk l then (0, (false, 8)) else if ¬ EvOk e then (0, (false, 2)) else
  if e.1 < mk s ∨ mk s + s.1.2.1.1 ≤ e.1 then (0, (false, 9)) else
  match findV s l with
  | some i => if e.1 ≤ ((s.2.2.2[i]?).getD ser0).2.1 then (0, (false, 9)) else ((i : Int), (false, 0))
  | none => if e.2.2.2 = true then (0, (false, 3)) else match roomV s with | some i => ((i : Int), (true, 0)) | none => (0, (false, 7))
end Go.Proofs.YthjnbidgliejkaaGreat

namespace Go.Proofs.YthjnbidgliejkaaGreat
open Go.Flat
/-- a number of so many bytes off what is left -/
def rd (st : List UInt8 × Bool) (k : Nat) : Int × (List UInt8 × Bool) := if st.2 = true ∨ st.1.length < k then (0, ([], true)) else (valI (bytesI (st.1.take k)), (st.1.drop k, false))
end Go.Proofs.YthjnbidgliejkaaGreat

namespace Go.Proofs.YthjnbidgliejkaaGreat
open Go.Flat
def q0 (s : List UInt8) := rd (s, false) 4
def q1 (s : List UInt8) := rd (q0 s).2 8
def q2 (s : List UInt8) := rd (q1 s).2 8
def q3 (s : List UInt8) := rd (q2 s).2 8
def q4 (s : List UInt8) := rd (q3 s).2 4
def q5 (s : List UInt8) := rd (q4 s).2 4
def q6 (s : List UInt8) := rd (q5 s).2 4
def q7 (s : List UInt8) := rd (q6 s).2 4
def q8 (s : List UInt8) := rd (q7 s).2 4
def q9 (s : List UInt8) := rd (q8 s).2 8
/-- the bytes are just a configuration's -/
structure Full (s : List UInt8) : Prop where
  z : (q9 s).1 = 0
  good : (q9 s).2.2 = false
  left : (q9 s).2.1 = []
end Go.Proofs.YthjnbidgliejkaaGreat

namespace Go.Proofs.YthjnbidgliejkaaGreat
open Go.Flat
def idxC (c : Conf) : Int := prt c.2.2.2.2 120
def hom (c : Conf) : Int := 1 + idxC c + c.2.2.2.2
end Go.Proofs.YthjnbidgliejkaaGreat

namespace Go.Proofs.YthjnbidgliejkaaGreat
open Go.Flat Go.Plim
set_option linter.unusedVariables false
set_option linter.unusedSimpArgs false
theorem el_get {l : List Ser} {k : Nat} (h : k < l.length) : ∃ y, l[k]? = some y := ⟨l[k], List.getElem?_eq_getElem h⟩
noncomputable def findR (s : Sta) (l : List Lab) : Int × Int := if Whole s then (match findV s l with | some i => ((i : Int), 0) | none => (0, 3)) else (0, 2)
noncomputable def roomR (s : Sta) : Int × Int := if Whole s then (match roomV s with | some i => ((i : Int), 0) | none => (0, 7)) else (0, 2)
def IsF (s : Sta) (l : List Lab) (k : Nat) : Prop := ∃ y, s.2.2.2[k]? = some y ∧ y.1 = l ∧ LvX s y
noncomputable instance (s l k) : Decidable (IsF s l k) := Classical.propDecidable _
def IsR (s : Sta) (k : Nat) : Prop := ∃ y, s.2.2.2[k]? = some y ∧ ¬ LvX s y
noncomputable instance (s k) : Decidable (IsR s k) := Classical.propDecidable _
theorem find_first {s : Sta} {l : List Lab} {m : Nat} (h : IsF s l m) (hn : ∀ j, j < m → ¬ IsF s l j) : findV s l = some m := by
  obtain ⟨y, h1, h2, h3⟩ := h
  exact findV_some.2 ⟨y, h1, h2, h3, fun j hj z hz k => hn j hj ⟨z, hz, k.1, k.2⟩⟩
theorem find_no {s : Sta} {l : List Lab} (hn : ∀ j, j < s.2.2.2.length → ¬ IsF s l j) : findV s l = none := by
  refine findV_none.2 fun x hx k => ?_
  obtain ⟨i, hi, e⟩ := List.getElem_of_mem hx
  exact hn i hi ⟨x, by rw [List.getElem?_eq_getElem hi, e], k.1, k.2⟩
theorem room_first {s : Sta} {m : Nat} (h : IsR s m) (hn : ∀ j, j < m → ¬ IsR s j) : roomV s = some m := by
  obtain ⟨y, h1, h2⟩ := h
  exact roomV_some.2 ⟨y, h1, h2, fun j hj z hz => Decidable.byContradiction fun k => hn j hj ⟨z, hz, k⟩⟩
theorem room_no {s : Sta} (hn : ∀ j, j < s.2.2.2.length → ¬ IsR s j) : roomV s = none := by
  refine roomV_none.2 fun x hx => Decidable.byContradiction fun k => ?_
  obtain ⟨i, hi, e⟩ := List.getElem_of_mem hx
  exact hn i hi ⟨x, by rw [List.getElem?_eq_getElem hi, e], k⟩
theorem state_find (n : Nat) {s : Sta} (hw : StaW s) (l : List Lab) : state_Find (n + 10) s l = some (findR s l) := by
  rw [state_Find_eq, st_open (n + 5) s, obind_some, tif_not, tif_dec]
  unfold findR
  by_cases h : Whole s
  case neg => rw [if_neg h, if_neg h, if_neg (show ¬ ((sta0, (2 : Int)).2 = 0) by decide)]
  rw [if_pos h, if_pos h, if_pos rfl]
  have his : ∀ k : Nat, k < s.2.2.2.length → (fun y1 : Int × Unit => state_Find_1 (n + 9) y1.1 s l s) ((k : Int), ()) = some (decide (IsF s l k)) := by
    intro k hk
    obtain ⟨y, hy⟩ := el_get hk
    have hm := (hw.at hy).2
    show state_Find_1 (n + 9) (k : Int) s l s = _
    rw [state_Find_1_eq, at_el hy, obind_some, label_same (n + 6) _ _ hm.l, obind_some, tif_dec, st_lives (n + 1) hy hm, obind_some]
    by_cases h1 : y.1 = l
    · rw [if_pos h1]
      refine congrArg some (decide_eq_decide.2 ⟨fun k => ⟨y, hy, h1, k⟩, fun ⟨z, z1, z2, z3⟩ => ?_⟩)
      rw [hy] at z1; cases z1; exact z3
    · rw [if_neg h1, decide_eq_false (fun q : IsF s l k => by obtain ⟨z, z1, z2, z3⟩ := q; rw [hy] at z1; cases z1; exact h1 z2)]
  rcases first_val (n + 8) s (fun y1 : Int × Unit => state_Find_1 (n + 9) y1.1 s l s) (fun k => decide (IsF s l k)) (by have := h.len; omega) his with ⟨m, q1, q2, q3, q4⟩ | ⟨q1, q2⟩
  · rw [show (fun y1 : Int × Unit => state_Find_1 (n + 9) y1.1 s l (s, (0 : Int)).1) = fun y1 : Int × Unit => state_Find_1 (n + 9) y1.1 s l s from rfl, q4, obind_some, tif_dec, if_neg (by omega), find_first (of_decide_eq_true q2) (fun j hj => of_decide_eq_false (q3 j hj))]
  · rw [show (fun y1 : Int × Unit => state_Find_1 (n + 9) y1.1 s l (s, (0 : Int)).1) = fun y1 : Int × Unit => state_Find_1 (n + 9) y1.1 s l s from rfl, q2, obind_some, tif_dec, if_pos (by decide), find_no (fun j hj => of_decide_eq_false (q1 j hj))]
theorem state_room (n : Nat) {s : Sta} (hw : StaW s) : state_Room (n + 10) s = some (roomR s) := by
  rw [state_Room_eq, st_open (n + 5) s, obind_some, tif_not, tif_dec]
  unfold roomR
  by_cases h : Whole s
  case neg => rw [if_neg h, if_neg h, if_neg (show ¬ ((sta0, (2 : Int)).2 = 0) by decide)]
  rw [if_pos h, if_pos h, if_pos rfl]
  have his : ∀ k : Nat, k < s.2.2.2.length → (fun y1 : Int × Unit => state_Room_1 (n + 9) y1.1 s) ((k : Int), ()) = some (decide (IsR s k)) := by
    intro k hk
    obtain ⟨y, hy⟩ := el_get hk
    have hm := (hw.at hy).2
    show state_Room_1 (n + 9) (k : Int) s = _
    rw [state_Room_1_eq, st_lives (n + 1) hy hm, obind_some]
    by_cases h1 : LvX s y
    · rw [decide_eq_true h1, decide_eq_false (fun q : IsR s k => by obtain ⟨z, z1, z2⟩ := q; rw [hy] at z1; cases z1; exact z2 h1)]; rfl
    · rw [decide_eq_false h1, decide_eq_true (show IsR s k from ⟨y, hy, h1⟩)]; rfl
  rcases first_val (n + 8) s (fun y1 : Int × Unit => state_Room_1 (n + 9) y1.1 s) (fun k => decide (IsR s k)) (by have := h.len; omega) his with ⟨m, q1, q2, q3, q4⟩ | ⟨q1, q2⟩
  · rw [show (fun y1 : Int × Unit => state_Room_1 (n + 9) y1.1 (s, (0 : Int)).1) = fun y1 : Int × Unit => state_Room_1 (n + 9) y1.1 s from rfl, q4, obind_some, tif_dec, if_neg (by omega), room_first (of_decide_eq_true q2) (fun j hj => of_decide_eq_false (q3 j hj))]
  · rw [show (fun y1 : Int × Unit => state_Room_1 (n + 9) y1.1 (s, (0 : Int)).1) = fun y1 : Int × Unit => state_Room_1 (n + 9) y1.1 s from rfl, q2, obind_some, tif_dec, if_pos (by decide), room_no (fun j hj => of_decide_eq_false (q1 j hj))]
/-! ### what lives -/
noncomputable def markV (s : Sta) : Int := if Whole s ∧ TimeP s.2.1 then mk s else 0
theorem state_mark (n : Nat) (s : Sta) : state_Mark (n + 5) s = some (markV s) := by
  rw [state_Mark_eq, st_open n s, obind_some, tif_not, tif_dec, st_time (n + 3), obind_some, tif_not, tif_dec]
  unfold markV
  by_cases h : Whole s
  case neg => rw [if_neg h, if_neg (show ¬ ((sta0, (2 : Int)).2 = 0) by decide), if_neg (fun k => h k.1)]
  rw [if_pos h, if_pos rfl]
  by_cases h1 : TimeP s.2.1
  case neg => rw [if_neg h1, if_neg (fun k => h1 k.2)]
  rw [if_pos h1, if_pos ⟨h, h1⟩, st_mark (n + 3) h1 h.1.rng.w0]; rfl
/-! ### two that are equal -/
theorem eqFunc_l4 (n : Nat) (a b : List Ser) (hL : a.length ≤ 9223372036854775807) (eq : Ser × (Ser × Unit) → Option Bool) (he : ∀ x ∈ a, ∀ y, eq (x, (y, ())) = some (decide (x = y))) : ∀ (ra rb pa pb : List Ser) (f : Nat) (ix len : Int), a = pa ++ ra → b = pb ++ rb → pa.length = pb.length → ra.length = rb.length → ix = pa.length → len = a.length → ra.length < f →
    slices_EqualFunc_SeriesSeries_Series_Series_l4 n f (b, eq, a, len, ix, ()) = some (if ra = rb then .inl () else .inr false) := by
  intro ra
  induction ra with
  | nil =>
    intro rb pa pb f ix len ha hb hp hr hi hn hf
    obtain ⟨f, rfl⟩ : ∃ g, f = g + 1 := ⟨f - 1, by simp at hf; omega⟩
    have : rb = [] := List.length_eq_zero_iff.1 (by simpa using hr.symm)
    subst this
    rw [slices_EqualFunc_SeriesSeries_Series_Series_l4_eq, decide_eq_false (idxe ha hi hn), tif_false, if_pos rfl]
  | cons x ra ih =>
    intro rb pa pb f ix len ha hb hp hr hi hn hf
    obtain ⟨f, rfl⟩ : ∃ g, f = g + 1 := ⟨f - 1, by simp at hf; omega⟩
    cases rb with
    | nil => simp at hr
    | cons y rb =>
      have hlen := congrArg List.length ha
      simp at hlen
      rw [slices_EqualFunc_SeriesSeries_Series_Series_l4_eq, decide_eq_true (idx ha hi hn), tif_true, at_mid ha hi, obind_some, at_mid hb (by rw [hi, hp]), obind_some, he x (by rw [ha]; simp) y, obind_some, tif_not, tif_dec, w64 (by omega) (by omega)]
      by_cases h : x = y
      · subst h
        rw [if_pos rfl, ih rb (pa ++ [x]) (pb ++ [x]) f (ix + 1) len (idxl ha) (idxl hb) (by simp [hp]) (by simpa using hr) (idxs hi) hn (by simp at hf; omega)]
        by_cases h2 : ra = rb
        · rw [if_pos h2, if_pos (by rw [h2])]
        · rw [if_neg h2, if_neg (by intro k; injection k with _ k; exact h2 k)]
      · rw [if_neg h, if_neg (by intro k; injection k with k _; exact h k)]
theorem state_same (n : Nat) {a : Sta} (ha : StaW a) (b : Sta) : state_Same (n + 5) a b = some (decide (a = b)) := by
  have he : ∀ x ∈ a.2.2.2, ∀ y, (fun y0 : Ser × (Ser × Unit) => series_Same (n + 4) y0.1 y0.2.1) (x, (y, ())) = some (decide (x = y)) := fun x hx y => series_same (n + 1) x y (ha.ser x hx).2
  rw [state_Same_eq, confEq, tif_dec, tif_dec, tif_dec, slices_EqualFunc_SeriesSeries_Series_Series_eq, tif_not, tif_dec]
  obtain ⟨a1, a2, a3, a4⟩ := a
  obtain ⟨b1, b2, b3, b4⟩ := b
  simp only at ha he ⊢
  by_cases h1 : a1 = b1
  case neg => rw [if_neg h1, decide_eq_false (fun k => h1 (congrArg Prod.fst k))]
  rw [if_pos h1]
  by_cases h2 : a2 = b2
  case neg => rw [if_neg h2, decide_eq_false (fun k => h2 (congrArg (fun z => z.2.1) k))]
  rw [if_pos h2]
  by_cases h3 : a3 = b3
  case neg => rw [if_neg h3, decide_eq_false (fun k => h3 (congrArg (fun z => z.2.2.1) k))]
  rw [if_pos h3]
  by_cases h4 : (a4.length : Int) = b4.length
  case neg => rw [if_neg h4, obind_some, decide_eq_false (fun k => h4 (congrArg (fun z => ((z.2.2.2.length : Nat) : Int)) k))]
  rw [if_pos h4, eqFunc_l4 (n + 3) a4 b4 ha.len (fun y0 : Ser × (Ser × Unit) => series_Same (n + 4) y0.1 y0.2.1) he a4 b4 [] [] loopFuel 0 _ rfl rfl rfl (by omega) rfl rfl (by have := ha.len; simp only at this; unfold loopFuel; omega)]
  by_cases h5 : a4 = b4
  · rw [if_pos h5, decide_eq_true (by rw [h1, h2, h3, h5])]; rfl
  · rw [if_neg h5, decide_eq_false (fun k => h5 (congrArg (fun z => z.2.2.2) k))]; rfl
/-! ### a new one -/
theorem sta0_w : StaW sta0 := ⟨by simp [sta0], by simp [sta0]⟩
end Go.Proofs.YthjnbidgliejkaaGreat

namespace Go.Proofs.YthjnbidgliejkaaGreat
open Go.Flat Go.Plim
set_option linter.unusedVariables false
set_option linter.unusedSimpArgs false
theorem nb_mono {l : List Slo} {a b : Int} (h : NoBehind l a) (hab : a ≤ b) : NoBehind l b := fun s hs hc => by
  have := h s hs hc; omega
theorem nb_tput {l : List Slo} {b i : Int} {x : Cel} (h : NoBehind l b) (hi : i < b) : NoBehind (tput l i x) b := by
  intro s hs hc
  rcases List.mem_or_eq_of_mem_set hs with k | k
  · exact h s k hc
  · rw [k]; exact hi
theorem ediv_lt_of_ne {a b w : Int} (hw : 1 ≤ w) (hab : a ≤ b) (h : a / w ≠ b / w) : a / w < b / w := by
  have : a / w ≤ b / w := Int.ediv_le_ediv (by omega) hab
  omega
theorem nb_upw {c : Conf} (hc : OkC c) {s : Trs} {T U : Int} (hTU : T ≤ U) (h0 : NoBehind s.1 (U / c.2.1.1)) (h1 : NoBehind s.2.1 (T / c.2.1.2.1)) (h2 : NoBehind s.2.2 (T / c.2.1.2.2)) :
    NoBehind (upw c s (T / c.2.1.1) (U / c.2.1.1)).1 (U / c.2.1.1) ∧ NoBehind (upw c s (T / c.2.1.1) (U / c.2.1.1)).2.1 (U / c.2.1.2.1) ∧ NoBehind (upw c s (T / c.2.1.1) (U / c.2.1.1)).2.2 (U / c.2.1.2.2) := by
  have hr := hc.rng
  have q1 := (ediv_mul_ediv (t := T) hr.w0.1 hr.w1.1 hc.m1).1
  have q1u := (ediv_mul_ediv (t := U) hr.w0.1 hr.w1.1 hc.m1).1
  have q2 := (ediv_mul_ediv (t := T) hr.w0.1 hr.w2.1 hc.m02).1
  have q2u := (ediv_mul_ediv (t := U) hr.w0.1 hr.w2.1 hc.m02).1
  have m1 : T / c.2.1.2.1 ≤ U / c.2.1.2.1 := Int.ediv_le_ediv (by have := hr.w1; omega) hTU
  have m2 : T / c.2.1.2.2 ≤ U / c.2.1.2.2 := Int.ediv_le_ediv (by have := hr.w2; omega) hTU
  have u1 : NoBehind (up1 c s (T / c.2.1.1) (U / c.2.1.1)).1 (U / c.2.1.1) ∧ NoBehind (up1 c s (T / c.2.1.1) (U / c.2.1.1)).2.1 (U / c.2.1.2.1) ∧ NoBehind (up1 c s (T / c.2.1.1) (U / c.2.1.1)).2.2 (T / c.2.1.2.2) := by
    unfold up1
    rw [q1, q1u]
    split
    · exact ⟨h0, nb_mono h1 m1, h2⟩
    · rename_i hne
      split
      · exact ⟨h0, nb_tput (nb_mono h1 m1) (by omega), h2⟩
      · exact ⟨h0, nb_mono h1 m1, h2⟩
  unfold upw
  generalize up1 c s (T / c.2.1.1) (U / c.2.1.1) = v at u1
  unfold up2
  rw [q2, q2u]
  split
  · exact ⟨u1.1, u1.2.1, nb_mono u1.2.2 m2⟩
  · rename_i hne
    split
    · exact ⟨u1.1, u1.2.1, nb_tput (nb_mono u1.2.2 m2) (by omega)⟩
    · exact ⟨u1.1, u1.2.1, nb_mono u1.2.2 m2⟩
theorem rawNext_ok {r : Rw} {room : Int} {e : Ev} (h : RawOk r room) (he : EvOk e) (ha : After r.2.2 e) (hl : ¬ ((r.2.2.length : Int) = room ∧ r.1 = 70368744177664)) : RawOk (rawNext r room e) room ∧ (rawNext r room e).2.2.getLast? = some e := by
  have hf : Foll (r.2.2 ++ [e]) := by
    refine foll_append.2 ⟨h.f, ⟨by simp [he], by simp⟩, fun x hx y hy => ?_⟩
    simp at hy; subst hy
    have hn : r.2.2 ≠ [] := List.ne_nil_of_mem hx
    have hg := List.getLast?_eq_some_getLast hn
    have := ha _ hg
    rcases List.eq_nil_or_concat r.2.2 with k | ⟨p, z, k⟩
    · exact absurd k hn
    · rw [List.concat_eq_append] at k
      have hz : r.2.2.getLast hn = z := by simp [k]
      rw [hz] at this
      rw [k] at hx
      rcases List.mem_append.1 hx with q | q
      · have hf := h.f; rw [k] at hf
        have := (foll_append.1 hf).2.2 x q z (by simp); omega
      · simp at q; rw [q]; exact this
  unfold rawNext
  by_cases h1 : (r.2.2.length : Int) < room
  · rw [if_pos h1]
    refine ⟨⟨h.m0, h.m1, by simp; omega, h.l0, h.l1, hf, h.z, fun k => ?_⟩, by simp⟩
    have := (h.p k).1; omega
  · rw [if_neg h1]
    have hlen := h.len
    have hlen' : (r.2.2.length : Int) = room := by omega
    have m0 := h.m0
    cases hc : r.2.2 with
    | nil => rw [hc] at hlen'; simp at hlen'; omega
    | cons a t =>
      rw [hc] at hf hlen'
      have hfa := foll_cons.1 hf
      simp only [List.drop_succ_cons, List.drop_zero, List.headD_cons]
      refine ⟨⟨h.m0, h.m1, by simp at hlen' ⊢; omega, by have := h.l0; simp only; omega, ?_, hfa.2.2, fun k => ?_, fun _ => ⟨by simp at hlen' ⊢; omega, hfa.1.t0, fun x hx => ?_⟩⟩, by simp⟩
      · have := h.l1
        have : r.1 ≠ 70368744177664 := fun k => hl ⟨by rw [hc]; exact hlen', k⟩
        simp only; omega
      · have := h.l0; simp only at k; omega
      · exact hfa.2.1 x (List.mem_of_mem_head? hx)
theorem mrg_fits {a : Cel} {e : Ev} {w i : Int} (h : FitsP a w i) (he : EvOk e) (hlt : a.2.2.1.1 < e.1) (hi : e.1 / w = i) : FitsP (mrg a (evCell e)) w i := by
  have hm := mrg_n h.n (evCell_N he)
  refine ⟨mrg_N h.n (evCell_N he) hlt, h.w0, h.w1, ?_, ?_⟩
  · rw [hm]; exact h.f
  · rw [hm]; exact hi
theorem serOk_put {c : Conf} {s t : Ser} {e : Ev} (h : SerOk c s) (hp : putE c s e = (t, 0)) : SerOk c t ∧ EvOk e ∧ s.2.1 < e.1 ∧ t.2.1 = e.1 ∧ t.1 = s.1 := by
  have hr := h.fold.cok.rng
  unfold putE at hp
  by_cases h1 : SerOk c s ∧ EvOk e
  case neg => rw [if_neg h1] at hp; cases hp
  rw [if_pos h1] at hp
  have he := h1.2
  by_cases h2 : e.1 ≤ s.2.1
  · rw [if_pos h2] at hp; cases hp
  rw [if_neg h2] at hp
  by_cases h3 : (turned c s (e.1 / c.2.1.1)).2 ≠ 0
  · rw [if_pos h3] at hp; exact absurd (congrArg Prod.snd hp) h3
  rw [if_neg h3] at hp
  by_cases h4 : (rawPut s.2.2.1 c.1 e).2 ≠ 0
  · rw [if_pos h4] at hp; exact absurd (congrArg Prod.snd hp) h4
  rw [if_neg h4] at hp
  by_cases h5 : (mrgE (turned c s (e.1 / c.2.1.1)).1.2.2 (evCell e)).2 ≠ 0
  · rw [if_pos h5] at hp; exact absurd (congrArg Prod.snd hp) h5
  rw [if_neg h5] at hp
  have hp := (Prod.ext_iff.1 hp).1
  simp only at hp
  subst hp
  refine ⟨?_, he, by omega, rfl, rfl⟩
  have h3 : (turned c s (e.1 / c.2.1.1)).2 = 0 := Decidable.byContradiction h3
  have h4 : (rawPut s.2.2.1 c.1 e).2 = 0 := Decidable.byContradiction h4
  have h5 : (mrgE (turned c s (e.1 / c.2.1.1)).1.2.2 (evCell e)).2 = 0 := Decidable.byContradiction h5
  have e0 : 0 ≤ e.1 := he.t0
  -- the raw events
  have hraw : RawOk (rawPut s.2.2.1 c.1 e).1 c.1 ∧ (rawPut s.2.2.1 c.1 e).1.2.2.getLast? = some e := by
    unfold rawPut at h4 ⊢
    rw [if_pos ⟨h.raw, he⟩] at h4 ⊢
    by_cases k1 : After s.2.2.1.2.2 e
    case neg => rw [if_neg k1] at h4; cases h4
    rw [if_pos k1] at h4 ⊢
    by_cases k2 : (s.2.2.1.2.2.length : Int) = c.1 ∧ s.2.2.1.1 = 70368744177664
    · rw [if_pos k2] at h4; cases h4
    rw [if_neg k2] at h4 ⊢
    exact rawNext_ok h.raw he k1 k2
  -- tiers and the open window
  have key : FoldOk c (turned c s (e.1 / c.2.1.1)).1.1 ∧ NoBehind (turned c s (e.1 / c.2.1.1)).1.1.1 (e.1 / c.2.1.1) ∧ NoBehind (turned c s (e.1 / c.2.1.1)).1.1.2.1 (e.1 / c.2.1.2.1) ∧ NoBehind (turned c s (e.1 / c.2.1.1)).1.1.2.2 (e.1 / c.2.1.2.2) ∧
      FitsP (mrgE (turned c s (e.1 / c.2.1.1)).1.2.2 (evCell e)).1 c.2.1.1 (e.1 / c.2.1.1) ∧ (mrgE (turned c s (e.1 / c.2.1.1)).1.2.2 (evCell e)).1.2.2.1.1 = e.1 := by
    have fresh1 : FitsP (evCell e) c.2.1.1 (e.1 / c.2.1.1) := ⟨evCell_N he, hr.w0.1, hr.w0.2, rfl, rfl⟩
    have z1 : mrgE s0.2 (evCell e) = (evCell e, 0) := mrgE_z0 (evCell_N he).ok
    rcases h.st with ⟨l1, hf⟩ | ⟨l1, hd⟩
    · have ht : turned c s (e.1 / c.2.1.1) = ((s.2.2.2.1, s.2.2.2.2), 0) := by
        unfold turned; rw [if_neg (fun k : TurnS s _ => k.1 hf.opn)]
      rw [ht]
      simp only
      rw [hf.opn, z1]
      exact ⟨h.fold, nb_mono hf.b0 (Int.ediv_nonneg e0 (by have := hr.w0; omega)), nb_mono hf.b1 (Int.ediv_nonneg e0 (by have := hr.w1; omega)), nb_mono hf.b2 (Int.ediv_nonneg e0 (by have := hr.w2; omega)), fresh1, rfl⟩
    · have hT : s.2.1 ≤ e.1 := by omega
      have ho : s.2.2.2.2.1 = s.2.1 / c.2.1.1 := by rw [← hd.fit.l, hd.ol]
      by_cases hts : TurnS s (e.1 / c.2.1.1)
      · have hlt : s.2.1 / c.2.1.1 < e.1 / c.2.1.1 := ediv_lt_of_ne hr.w0.1 hT (by rw [← ho]; exact hts.2)
        have hcl : closeE c s.2.2.2.1 s.2.2.2.2 (e.1 / c.2.1.1) = (upw c (tput s.2.2.2.1.1 s.2.2.2.2.1 s.2.2.2.2.2, s.2.2.2.1.2) (s.2.1 / c.2.1.1) (e.1 / c.2.1.1), 0) := by
          unfold closeE
          rw [if_pos h.fold, if_neg hts.1, if_pos hd.fit, if_neg hts.2, if_pos ⟨by omega, ev_begins he hr.w0.1⟩, ho]
        have ht : turned c s (e.1 / c.2.1.1) = ((upw c (tput s.2.2.2.1.1 s.2.2.2.2.1 s.2.2.2.2.2, s.2.2.2.1.2) (s.2.1 / c.2.1.1) (e.1 / c.2.1.1), s0), 0) := by
          unfold turned; rw [if_pos hts, hcl, if_pos rfl]
        rw [ht]
        simp only
        rw [z1]
        obtain ⟨n0, n1, n2⟩ := nb_upw (s := (tput s.2.2.2.1.1 s.2.2.2.2.1 s.2.2.2.2.2, s.2.2.2.1.2)) h.fold.cok hT (nb_tput (nb_mono hd.b0 (by omega)) (by omega)) hd.b1 hd.b2
        exact ⟨upw_ok (foldOk_put0 h.fold hd.fit) _ _, n0, n1, n2, fresh1, rfl⟩
      · have ht : turned c s (e.1 / c.2.1.1) = ((s.2.2.2.1, s.2.2.2.2), 0) := by
          unfold turned; rw [if_neg hts]
        have hop : s.2.2.2.2 ≠ s0 := fun k => by have := hd.fit.n.n1; rw [k] at this; simp [s0, z0] at this
        have hw : s.2.2.2.2.1 = e.1 / c.2.1.1 := Decidable.byContradiction fun k => hts ⟨hop, k⟩
        rw [ht] at h5 ⊢
        simp only at h5 ⊢
        obtain ⟨k1, k2, k3, k4, k5⟩ := mrgE_ok h5
        rw [k4]
        have hfit := hd.fit
        rw [hw] at hfit
        have hm := mrg_n hd.fit.n (evCell_N he)
        exact ⟨h.fold, nb_mono hd.b0 (by omega), nb_mono hd.b1 (Int.ediv_le_ediv (by have := hr.w1; omega) hT), nb_mono hd.b2 (Int.ediv_le_ediv (by have := hr.w2; omega) hT),
          mrg_fits hfit he (by have := hd.ol; omega) rfl, by rw [hm]; rfl⟩
  obtain ⟨k1, k2, k3, k4, k5, k6⟩ := key
  exact ⟨k1, h.lab, hraw.1, .inr ⟨by show e.1 ≠ -1; omega, ⟨e, hraw.2, rfl⟩, k6, k5, k2, k3, k4⟩⟩
/-! ### states -/
def setS (s : Sta) (i : Nat) (y : Ser) : Sta := (s.1, (s.2.1, (s.2.2.1, s.2.2.2.set i y)))
noncomputable def xOf (s : Sta) (l : List Lab) (w : Int × (Bool × Int)) : Ser := if w.2.1 = true then (newV s.1 l).1 else (s.2.2.2[w.1.toNat]?).getD ser0
noncomputable def writeV (s : Sta) (l : List Lab) (e : Ev) : Sta × Int :=
  if (whereV s l e).2.2 ≠ 0 then (sta0, (whereV s l e).2.2)
  else if (putE s.1 (xOf s l (whereV s l e)) e).2 ≠ 0 then (sta0, (putE s.1 (xOf s l (whereV s l e)) e).2)
  else (setS s (whereV s l e).1.toNat (putE s.1 (xOf s l (whereV s l e)) e).1, 0)
/-- what it takes -/
structure Goes (s : Sta) (l : List Lab) (e : Ev) : Prop where
  st : StaOk s
  lab : LabOk l
  ev : EvOk e
  lo : mk s ≤ e.1
  hi : e.1 < mk s + s.1.2.1.1
/-- where it goes -/
inductive PlaceAt (s : Sta) (l : List Lab) (e : Ev) : Nat → Ser → Bool → Prop
  | found {i : Nat} {x : Ser} (hf : findV s l = some i) (hx : s.2.2.2[i]? = some x) (hl : x.1 = l) (hlv : LvX s x) (ht : x.2.1 < e.1) : PlaceAt s l e i x false
  | room {i : Nat} (hf : findV s l = none) (hs : e.2.2.2 = false) (hr : roomV s = some i) : PlaceAt s l e i (l, (-1, (r0w, (emp s.1, s0)))) true
theorem new_val {c : Conf} {l : List Lab} (h : OkC c) (hl : LabOk l) : newV c l = ((l, (-1, (r0w, (emp c, s0)))), 0) := by
  unfold newV; rw [if_pos h, if_pos hl]
theorem goes_iff {s : Sta} {l : List Lab} {e : Ev} (h : (whereV s l e).2.2 = 0) : Goes s l e ∧ ∃ i x b, PlaceAt s l e i x b ∧ (whereV s l e).1.toNat = i ∧ xOf s l (whereV s l e) = x ∧ whereV s l e = ((i : Int), (b, 0)) := by
  unfold whereV at h ⊢
  by_cases h1 : StaOk s
  case neg => rw [if_pos h1] at h; cases h
  rw [if_neg (fun k => k h1)] at h ⊢
  by_cases h2 : LabOk l
  case neg => rw [if_pos h2] at h; cases h
  rw [if_neg (fun k => k h2)] at h ⊢
  by_cases h3 : EvOk e
  case neg => rw [if_pos h3] at h; cases h
  rw [if_neg (fun k => k h3)] at h ⊢
  by_cases h4 : e.1 < mk s ∨ mk s + s.1.2.1.1 ≤ e.1
  · rw [if_pos h4] at h; cases h
  rw [if_neg h4] at h ⊢
  refine ⟨⟨h1, h2, h3, by omega, by omega⟩, ?_⟩
  cases hf : findV s l with
  | some i =>
    rw [hf] at h
    simp only at h ⊢
    obtain ⟨x, hx, k1, k2, k3⟩ := findV_some.1 hf
    rw [hx] at h ⊢
    simp only [Option.getD_some] at h ⊢
    by_cases h5 : e.1 ≤ x.2.1
    · rw [if_pos h5] at h; cases h
    rw [if_neg h5]
    exact ⟨i, x, false, .found hf hx k1 k2 (by omega), rfl, by unfold xOf; simp [hx], rfl⟩
  | none =>
    rw [hf] at h
    simp only at h ⊢
    cases h5 : e.2.2.2 with
    | true => rw [h5, if_pos rfl] at h; cases h
    | false =>
      rw [h5, if_neg (by simp)] at h
      rw [if_neg (by simp)]
      cases hr : roomV s with
      | none => rw [hr] at h; cases h
      | some i =>
        simp only
        exact ⟨i, _, true, .room hf h5 hr, rfl, by unfold xOf; rw [if_pos rfl, new_val h1.whole.1 h2], rfl⟩
theorem place_ok {s : Sta} {l : List Lab} {e : Ev} (h : Goes s l e) {i : Nat} {x : Ser} {b : Bool} (hp : PlaceAt s l e i x b) : SerOk s.1 x ∧ x.1 = l ∧ i < s.2.2.2.length ∧ x.2.1 < e.1 := by
  cases hp with
  | found hf hx hl hlv ht =>
    rcases h.st.right _ _ hx with k | k
    · exact absurd k hlv.1
    · exact ⟨k.1, hl, (List.getElem?_eq_some_iff.1 hx).1, ht⟩
  | room hf hs hr =>
    obtain ⟨y, hy, _⟩ := roomV_some.1 hr
    exact ⟨serInv_ok (new_inv h.st.whole.1 h.lab), rfl, (List.getElem?_eq_some_iff.1 hy).1, by have := h.ev.t0; show (-1 : Int) < e.1; omega⟩
theorem write_ok {s t : Sta} {l : List Lab} {e : Ev} (h : writeV s l e = (t, 0)) : Goes s l e ∧ ∃ i x b y, PlaceAt s l e i x b ∧ putE s.1 x e = (y, 0) ∧ t = setS s i y ∧ whereV s l e = ((i : Int), (b, 0)) := by
  unfold writeV at h
  by_cases h1 : (whereV s l e).2.2 = 0
  case neg => rw [if_pos h1] at h; exact absurd (congrArg Prod.snd h) h1
  rw [if_neg (fun k => k h1)] at h
  obtain ⟨hg, i, x, b, k1, k2, k3, k4⟩ := goes_iff h1
  rw [k2, k3] at h
  by_cases h2 : (putE s.1 x e).2 = 0
  case neg => rw [if_pos h2] at h; exact absurd (congrArg Prod.snd h) h2
  rw [if_neg (fun k => k h2)] at h
  exact ⟨hg, i, x, b, _, k1, Prod.ext rfl h2, (congrArg Prod.fst h).symm, k4⟩
theorem setS_get (s : Sta) (i : Nat) (y : Ser) (j : Nat) : (setS s i y).2.2.2[j]? = if i = j then (if i < s.2.2.2.length then some y else none) else s.2.2.2[j]? := by
  unfold setS
  simp only [List.getElem?_set]
/-- a series that ends in the open window is not gone by the sweep -/
theorem new_lives {s : Sta} (h : StaOk s) {y : Ser} (hn : y ≠ ser0) (h1 : mk s ≤ y.2.1) (h2 : y.2.1 < 35184372088832) : LvX s y := by
  refine ⟨hn, ?_⟩
  rcases h.clock.2.1 with k | k
  · exact .inl k
  · refine .inr ?_
    have hr := h.whole.1.rng
    have hc := h.clock.2.2
    obtain ⟨m1, m2, m3, m4⟩ := mk_range h.clock.1 hr.w0
    have e1 : s.2.2.1 / s.1.2.1.1 ≤ y.2.1 / s.1.2.1.1 := by
      have a1 : s.2.1 / s.1.2.1.1 ≤ y.2.1 / s.1.2.1.1 := by
        rw [Int.le_ediv_iff_mul_le (by omega)]; exact h1
      have a2 : s.2.2.1 / s.1.2.1.1 ≤ s.2.1 / s.1.2.1.1 := Int.ediv_le_ediv (by omega) hc
      omega
    unfold deadV
    have g : goneV y.2.1 s.2.2.1 s.1.2.1.1 s.1.2.2.1.1 = false := by
      unfold goneV oldV
      have n0 := hr.n0
      have := Int.ediv_nonneg k.1 (show 0 ≤ s.1.2.1.1 by omega)
      rw [if_pos ⟨⟨k.1, k.2, hr.w0.1, hr.w0.2⟩, n0.1, n0.2⟩]
      refine decide_eq_false fun q => ?_
      have q := q.2.2
      simp only at q
      split at q <;> omega
    rw [g]; simp
theorem staOk_write {s t : Sta} {l : List Lab} {e : Ev} (h : writeV s l e = (t, 0)) : StaOk t := by
  obtain ⟨hg, i, x, b, y, hp, hput, rfl, _⟩ := write_ok h
  obtain ⟨p1, p2, p3, p4⟩ := place_ok hg hp
  obtain ⟨q1, q2, q3, q4, q5⟩ := serOk_put p1 hput
  have hst := hg.st
  refine ⟨⟨hst.whole.1, by simpa [setS] using hst.whole.2⟩, hst.clock, fun j z hz => ?_⟩
  rw [setS_get] at hz
  by_cases hij : i = j
  · subst hij
    rw [if_pos rfl, if_pos p3] at hz
    cases hz
    refine .inr ⟨q1, by rw [q4]; exact hg.ev.t0, by rw [q4]; exact hg.hi, ?_⟩
    rintro ⟨_, k, hk, w, hw, hlw, hwl⟩
    rw [setS_get, if_neg (by omega)] at hw
    rw [q5, p2] at hwl
    cases hp with
    | found hf hx hl hlv ht =>
      obtain ⟨_, _, _, _, first⟩ := findV_some.1 hf
      exact first k hk w hw ⟨hwl, hlw⟩
    | room hf hs hr => exact findV_none.1 hf w (List.mem_of_getElem? hw) ⟨hwl, hlw⟩
  · rw [if_neg hij] at hz
    rcases hst.right j z hz with k | ⟨k1, k2, k3, k4⟩
    · exact .inl k
    · refine .inr ⟨k1, k2, k3, ?_⟩
      rintro ⟨hlz, k, hk, w, hw, hlw, hwl⟩
      rw [setS_get] at hw
      by_cases hik : i = k
      · subst hik
        rw [if_pos rfl, if_pos p3] at hw
        cases hw
        rw [q5, p2] at hwl
        cases hp with
        | found hf hx hl hlv ht => exact k4 ⟨hlz, i, hk, x, hx, hlv, hl.trans hwl⟩
        | room hf hs hr => exact findV_none.1 hf z (List.mem_of_getElem? hz) ⟨hwl.symm, hlz⟩
      · rw [if_neg hik] at hw
        exact k4 ⟨hlz, k, hk, w, hw, hlw, hwl⟩
end Go.Proofs.YthjnbidgliejkaaGreat

namespace Go.Proofs.YthjnbidgliejkaaGreat
open Go.Flat Go.Plim
set_option linter.unusedVariables false
set_option linter.unusedSimpArgs false
end Go.Proofs.YthjnbidgliejkaaGreat

namespace Go.Proofs.YthjnbidgliejkaaGreat
open Go.Flat Go.Plim
set_option linter.unusedVariables false
set_option linter.unusedSimpArgs false
noncomputable def openV (s : Sta) : Int × Int := if StaOk s then (mk s, if 35184372088832 < mk s + s.1.2.1.1 then 35184372088832 else mk s + s.1.2.1.1) else (0, 0)
theorem markV_ok {s : Sta} (h : StaOk s) : markV s = mk s ∧ IntKind.wrap .i64 (mk s + s.1.2.1.1) = mk s + s.1.2.1.1 := by
  have hr := h.whole.1.rng.w0
  have ht := h.clock.1.2
  obtain ⟨m1, m2, m3, m4⟩ := mk_range h.clock.1 hr
  exact ⟨if_pos ⟨h.whole, h.clock.1⟩, w64 (by omega) (by omega)⟩
theorem rules_open (n : Nat) {s : Sta} (hw : StaW s) : rules_Open (n + 15) s = some (openV s) := by
  rw [rules_Open_eq, state_check n hw, obind_some, tif_not, tif_dec, state_mark (n + 9) s]
  unfold openV
  by_cases h : StaOk s
  case neg => rw [if_neg h, if_neg h, if_neg (show ¬ ((2 : Int) = 0) by decide)]
  obtain ⟨e1, e2⟩ := markV_ok h
  rw [if_pos h, if_pos h, if_pos rfl, obind_some, e1, e2]
theorem open_iff {s : Sta} {e : Ev} (h : StaOk s) (he : EvOk e) : (e.1 < (openV s).1 ∨ (openV s).2 ≤ e.1) ↔ (e.1 < mk s ∨ mk s + s.1.2.1.1 ≤ e.1) := by
  have := he.t1
  unfold openV
  rw [if_pos h]
  simp only
  split <;> omega
theorem findR_some {s : Sta} (h : Whole s) {l : List Lab} {i : Nat} (hf : findV s l = some i) : findR s l = ((i : Int), 0) := by
  unfold findR; rw [if_pos h, hf]
theorem findR_none {s : Sta} (h : Whole s) {l : List Lab} (hf : findV s l = none) : findR s l = (0, 3) := by
  unfold findR; rw [if_pos h, hf]
theorem roomR_some {s : Sta} (h : Whole s) {i : Nat} (hf : roomV s = some i) : roomR s = ((i : Int), 0) := by
  unfold roomR; rw [if_pos h, hf]
theorem roomR_none {s : Sta} (h : Whole s) (hf : roomV s = none) : roomR s = (0, 7) := by
  unfold roomR; rw [if_pos h, hf]
theorem whereV_room {s : Sta} {l : List Lab} {e : Ev} (h : StaOk s) (h1 : LabOk l) (h2 : EvOk e) (h3 : ¬ (e.1 < mk s ∨ mk s + s.1.2.1.1 ≤ e.1)) :
    whereV s l e = match findV s l with
      | some i => if e.1 ≤ ((s.2.2.2[i]?).getD ser0).2.1 then (0, (false, 9)) else ((i : Int), (false, 0))
      | none => if e.2.2.2 = true then (0, (false, 3)) else match roomV s with | some i => ((i : Int), (true, 0)) | none => (0, (false, 7)) := by
  unfold whereV
  rw [if_neg (fun k => k h), if_neg (fun k => k h1), if_neg (fun k => k h2), if_neg h3]
  all_goals (cases findV s l <;> first | rfl | (cases roomV s <;> rfl))
theorem rules_where (n : Nat) {s : Sta} (hw : StaW s) (l : List Lab) {e : Ev} (he : EvW e) : rules_Where (n + 16) s l e = some (whereV s l e) := by
  rw [rules_Where_eq, state_check (n + 1) hw, obind_some, tif_not, tif_dec, label_check _ l, event_check _ he, rules_open n hw, state_find (n + 5) hw l, state_room (n + 5) hw]
  by_cases h : StaOk s
  case neg =>
    rw [if_neg h, if_neg (show ¬ ((2 : Int) = 0) by decide)]
    unfold whereV; rw [if_pos h]
  rw [if_pos h, if_pos rfl, obind_some, tif_not, tif_dec]
  by_cases h1 : LabOk l
  case neg =>
    rw [if_neg h1, if_neg (show ¬ ((8 : Int) = 0) by decide)]
    unfold whereV; rw [if_neg (fun k => k h), if_pos h1]
  rw [if_pos h1, if_pos rfl, obind_some, tif_not, tif_dec]
  by_cases h2 : EvOk e
  case neg =>
    rw [if_neg h2, if_neg (show ¬ ((2 : Int) = 0) by decide)]
    unfold whereV; rw [if_neg (fun k => k h), if_neg (fun k => k h1), if_pos h2]
  rw [if_pos h2, if_pos rfl, obind_some, obind_some, tif_dec, tif_dec]
  by_cases h3 : e.1 < mk s ∨ mk s + s.1.2.1.1 ≤ e.1
  · have ht : whereV s l e = (0, (false, 9)) := by
      unfold whereV; rw [if_neg (fun k => k h), if_neg (fun k => k h1), if_neg (fun k => k h2), if_pos h3]
    rw [ht]
    rcases (open_iff h h2).2 h3 with q | q
    · rw [if_pos q]
    · by_cases q' : e.1 < (openV s).1
      · rw [if_pos q']
      · rw [if_neg q', if_pos q]
  have h3' := mt (open_iff h h2).1 h3
  rw [if_neg (fun k => h3' (.inl k)), if_neg (fun k => h3' (.inr k)), whereV_room h h1 h2 h3, tif_dec]
  cases hf : findV s l with
  | some i =>
    obtain ⟨x, hx, _⟩ := findV_some.1 hf
    rw [findR_some h.whole hf, if_pos rfl, at_el hx, obind_some, tif_dec]
    simp only [hx, Option.getD_some]
    by_cases h4 : e.1 ≤ x.2.1
    · rw [if_pos h4, if_pos h4]
    · rw [if_neg h4, if_neg h4]; rfl
  | none =>
    rw [findR_none h.whole hf, if_neg (show ¬ ((3 : Int) = 0) by decide), show (decide (((0 : Int), (3 : Int)).2 = 0)) = false from rfl, tif_false]
    cases hs : e.2.2.2 with
    | true => rw [tif_true]; simp
    | false =>
      rw [tif_false, obind_some]
      simp only [Bool.false_eq_true, if_false]
      cases hr : roomV s with
      | some i => rw [roomR_some h.whole hr]; rfl
      | none => rw [roomR_none h.whole hr]; rfl
theorem where_err {s : Sta} {l : List Lab} {e : Ev} (h : (whereV s l e).2.2 ≠ 0) : writeV s l e = (sta0, (whereV s l e).2.2) := by
  unfold writeV; rw [if_pos h]
theorem clone_ser (n : Nat) (s : List Ser) (h : s.length ≤ 1000000) : slices_Clone_Series (n + 1) s = some s := by
  rw [slices_Clone_Series_eq, decide_eq_true (show (0 + s.length) * 264 ≤ 140737488355328 by omega)]
  simp only [tif_true, List.nil_append]
  by_cases h0 : s.length = 0
  · rw [decide_eq_true h0, tif_true, List.length_eq_zero_iff.1 h0, both_same]
  · rw [decide_eq_false h0, tif_false]
theorem place_w {s : Sta} (hw : StaW s) {l : List Lab} {e : Ev} (hg : Goes s l e) {i : Nat} {x : Ser} {b : Bool} (hp : PlaceAt s l e i x b) : SerW x := by
  cases hp with
  | found hf hx hl hlv ht => exact (hw.at hx).1
  | room hf hs hr => exact serInv_w (new_inv hg.st.whole.1 hg.lab)
theorem write_val {s : Sta} {l : List Lab} {e : Ev} {i : Nat} {x : Ser} {b : Bool} (hp : (whereV s l e).1.toNat = i) (hx : xOf s l (whereV s l e) = x) (h : (whereV s l e).2.2 = 0) :
    writeV s l e = if (putE s.1 x e).2 = 0 then (setS s i (putE s.1 x e).1, 0) else (sta0, (putE s.1 x e).2) := by
  unfold writeV
  rw [if_neg (fun k => k h), hp, hx]
  by_cases h1 : (putE s.1 x e).2 = 0
  · rw [if_neg (fun k => k h1), if_pos h1]
  · rw [if_pos h1, if_neg h1]
theorem set_tail {s : Sta} {i : Nat} (hi : i < s.2.2.2.length) (y : Ser) :
    (obind (at? s.2.2.2 (i : Int)) fun r4 => obind ((s.2.2.2)[(Int.toNat (i : Int))]?) fun r5 => some ((s.1, (s.2.1, (s.2.2.1, (List.set s.2.2.2 (Int.toNat (i : Int)) y)))), (0 : Int))) = some (setS s i y, 0) := by
  obtain ⟨z, hz⟩ := el_get hi
  rw [at_el hz, obind_some, Int.toNat_natCast, hz, obind_some]
  rfl
theorem write_one (n : Nat) {s : Sta} (hw : StaW s) (l : List Lab) {e : Ev} (he : EvW e) : write_One (n + 24) s l e = some (writeV s l e) := by
  rw [write_One_eq, rules_where (n + 7) hw l he, obind_some, tif_not, tif_dec]
  by_cases h : (whereV s l e).2.2 = 0
  case neg => rw [if_neg h, where_err h]; rfl
  obtain ⟨hg, i, x, b, hp, k1, k2, hv⟩ := goes_iff h
  obtain ⟨p1, p2, p3, p4⟩ := place_ok hg hp
  rw [if_pos h, write_val (b := b) k1 k2 h, hv, write_place_eq]
  have hx : (tif b (obind (series_New (n + 22) s.1 l) fun r0 => some r0) (obind (at? s.2.2.2 (i : Int)) fun r1 => some (r1, (0 : Int)))) = some (x, 0) := by
    cases hp with
    | found hf hx hl hlv ht => rw [tif_false, at_el hx, obind_some]
    | room hf hs hr => rw [tif_true, series_new (n + 15), new_val hg.st.whole.1 hg.lab, obind_some]
  simp only
  rw [hx, obind_some, tif_not, tif_dec, if_pos rfl]
  simp only
  rw [series_put n s.1 (place_w hw hg hp) he, obind_some, tif_not, tif_dec]
  by_cases h1 : (putE s.1 x e).2 = 0
  case neg => rw [if_neg h1, if_neg h1]; rfl
  rw [if_pos h1, if_pos h1, clone_ser (n + 22) _ (by have := hg.st.whole.len; omega), obind_some, set_tail p3]
end Go.Proofs.YthjnbidgliejkaaGreat

namespace Go.Proofs.YthjnbidgliejkaaGreat
open Go.Flat
def ks0 : TSlot := (0, (0, ((0, (0, (0, false))), ((0, (0, (0, false))), ((0, 0), (0, (0, 0)))))))
def kt0 : List TSlot × (List TSlot × List TSlot) := ([ks0, ks0, ks0, ks0], ([ks0, ks0, ks0, ks0, ks0], [ks0, ks0, ks0, ks0, ks0, ks0]))
def kz : TSeries := ([], (0, ((0, (0, [])), (([], ([], [])), ks0))))
def kc : TConfig := (20, ((10, (20, 60)), ((4, (5, 6)), (3, 9))))
def ka : TSeries := ([([97], [])], (3, ((0, (0, [(3, (2, (0, false)))])), (kt0, (0, (1, ((3, (2, (0, false))), ((3, (2, (0, false))), ((0, 0), (0, (0, 0)))))))))))
def kb : TSeries := ([([98], [])], (4, ((0, (0, [(4, (1, (0, false)))])), (kt0, (0, (1, ((4, (1, (0, false))), ((4, (1, (0, false))), ((0, 0), (0, (0, 0)))))))))))
def ka2 : TSeries := ([([97], [])], (5, ((0, (0, [(3, (2, (0, false))), (5, (3, (0, false)))])), (kt0, (0, (2, ((3, (2, (0, false))), ((5, (3, (0, false))), ((0, 1), (0, (0, 2)))))))))))
def k1 : TState := (kc, (0, (-1, [kz, kz, kz])))
def k2 : TState := (kc, (0, (-1, [ka, kz, kz])))
def k3 : TState := (kc, (0, (-1, [ka, kb, kz])))
def k4 : TState := (kc, (0, (-1, [ka2, kb, kz])))
def k0 : TState := ((0, ((0, (0, 0)), ((0, (0, 0)), (0, 0)))), (0, (0, [])))
end Go.Proofs.YthjnbidgliejkaaGreat

namespace Go.Proofs.YthjnbidgliejkaaGreat
open Go.Flat Go.Plim
set_option linter.unusedVariables false
set_option linter.unusedSimpArgs false
theorem serW_put {c : Conf} {s t : Ser} {e : Ev} (h : SerOk c s) (hp : putE c s e = (t, 0)) : SerW t ∧ SerM t := by
  obtain ⟨q1, q2, q3, q4, q5⟩ := serOk_put h hp
  have hc := q1.fold.cok.rng
  refine ⟨⟨?_, fun x hx => EvW.of (q1.raw.f.ok x hx), q1.fold.w, ?_⟩, ?_⟩
  · have := q2.t0; have := q2.t1; rw [q4]; unfold I64; omega
  · rcases q1.st with ⟨_, k⟩ | ⟨_, k⟩
    · rw [k.opn]; exact slow_s0
    · have := k.fit.i0
      exact ⟨by unfold I64; omega, .of k.fit.n.ok⟩
  · have l1 := q1.lab.n1; have l2 := q1.raw.len; have l3 := q1.raw.m1
    have := q1.fold.lens
    exact ⟨by omega, by omega, by omega, by omega, by omega⟩
theorem write_w {s t : Sta} (hw : StaW s) {l : List Lab} {e : Ev} {v : Int} (h : writeV s l e = (t, v)) : StaW t := by
  by_cases hv : v = 0
  · subst hv
    obtain ⟨hg, i, x, b, y, hp, hput, rfl, _⟩ := write_ok h
    obtain ⟨p1, p2, p3, p4⟩ := place_ok hg hp
    have hy := serW_put p1 hput
    refine ⟨by simpa [setS] using hw.len, fun z hz => ?_⟩
    rcases List.mem_or_eq_of_mem_set hz with k | k
    · exact hw.ser z k
    · rw [k]; exact hy
  · have : t = sta0 := by
      unfold writeV at h
      split at h
      · exact (congrArg Prod.fst h).symm
      · split at h
        · exact (congrArg Prod.fst h).symm
        · exact absurd (congrArg Prod.snd h).symm hv
    rw [this]; exact sta0_w
theorem writeV_w {s : Sta} (hw : StaW s) (l : List Lab) (e : Ev) : StaW (writeV s l e).1 := write_w hw (v := (writeV s l e).2) rfl
end Go.Proofs.YthjnbidgliejkaaGreat

namespace Go.Proofs.YthjnbidgliejkaaGreat
open Go.Flat Go.Plim
set_option linter.unusedVariables false
set_option linter.unusedSimpArgs false
theorem find_set {s : Sta} {i j : Nat} (hij : i ≠ j) {l m : List Lab} (hi : findV s l = some i) (hj : findV s m = some j) {y : Ser} (hy : y.1 = l) : findV (setS s i y) m = some j := by
  obtain ⟨x, hx, h1, h2, h3⟩ := findV_some.1 hj
  have hlm : l ≠ m := fun k => by rw [k, hj] at hi; cases hi; exact hij rfl
  refine findV_some.2 ⟨x, by rw [setS_get, if_neg hij]; exact hx, h1, h2, fun k hk z hz hn => ?_⟩
  rw [setS_get] at hz
  by_cases hik : i = k
  · rw [if_pos hik] at hz
    split at hz
    · cases hz; exact hlm (hy.symm.trans hn.1)
    · cases hz
  · rw [if_neg hik] at hz
    exact h3 k hk z hz hn
theorem where_found {s : Sta} (h : StaOk s) {m : List Lab} {j : Nat} {x : Ser} (hj : findV s m = some j) (hx : s.2.2.2[j]? = some x) (f : Ev) :
    whereV s m f = if ¬ LabOk m then (0, (false, 8)) else if ¬ EvOk f then (0, (false, 2)) else if f.1 < mk s ∨ mk s + s.1.2.1.1 ≤ f.1 then (0, (false, 9)) else if f.1 ≤ x.2.1 then (0, (false, 9)) else ((j : Int), (false, 0)) := by
  unfold whereV
  rw [if_neg (fun k => k h), hj]
  simp only [hx, Option.getD_some]
theorem where_set {s : Sta} {i j : Nat} (hij : i ≠ j) {l m : List Lab} (hi : findV s l = some i) (hj : findV s m = some j) {y : Ser} (hy : y.1 = l) (h : StaOk s) (h' : StaOk (setS s i y)) (f : Ev) :
    whereV (setS s i y) m f = whereV s m f := by
  obtain ⟨x, hx, _⟩ := findV_some.1 hj
  rw [where_found h hj hx, where_found h' (find_set hij hi hj hy) (by rw [setS_get, if_neg hij]; exact hx)]
  rfl
theorem write_err {s : Sta} {m : List Lab} {f : Ev} (h : (whereV s m f).2.2 ≠ 0) : writeV s m f = (sta0, (whereV s m f).2.2) := by
  unfold writeV; rw [if_pos h]
theorem write_at {s : Sta} {m : List Lab} {f : Ev} {j : Nat} {b : Bool} {x : Ser} (h : whereV s m f = ((j : Int), (b, 0))) (hx : xOf s m ((j : Int), (b, 0)) = x) :
    writeV s m f = if (putE s.1 x f).2 ≠ 0 then (sta0, (putE s.1 x f).2) else (setS s j (putE s.1 x f).1, 0) := by
  unfold writeV
  rw [h, hx, if_neg (show ¬ (((j : Int), (b, (0 : Int))).2.2 ≠ 0) from fun k => k rfl)]
  rfl
theorem found_err {s : Sta} (h : StaOk s) {m : List Lab} {j : Nat} {x : Ser} (hj : findV s m = some j) (hx : s.2.2.2[j]? = some x) {f : Ev} (h1 : (whereV s m f).2.2 = 0) : whereV s m f = ((j : Int), (false, 0)) := by
  have := where_found h hj hx f
  rw [this] at h1 ⊢
  by_cases c1 : LabOk m
  case neg => rw [if_pos c1] at h1; cases h1
  rw [if_neg (fun k => k c1)] at h1 ⊢
  by_cases c2 : EvOk f
  case neg => rw [if_pos c2] at h1; cases h1
  rw [if_neg (fun k => k c2)] at h1 ⊢
  by_cases c3 : f.1 < mk s ∨ mk s + s.1.2.1.1 ≤ f.1
  · rw [if_pos c3] at h1; cases h1
  rw [if_neg c3] at h1 ⊢
  by_cases c4 : f.1 ≤ x.2.1
  · rw [if_pos c4] at h1; cases h1
  rw [if_neg c4]
/-- what writing to the one does is done, whether the other was written to or not -/
theorem write_set {s : Sta} {i j : Nat} (hij : i ≠ j) {l m : List Lab} (hi : findV s l = some i) (hj : findV s m = some j) {y : Ser} (hy : y.1 = l) (h : StaOk s) (h' : StaOk (setS s i y)) (f : Ev) :
    (writeV (setS s i y) m f).2 = (writeV s m f).2 ∧ ((writeV s m f).2 = 0 → ∃ z, writeV s m f = (setS s j z, 0) ∧ writeV (setS s i y) m f = (setS (setS s i y) j z, 0)) := by
  obtain ⟨x, hx, _⟩ := findV_some.1 hj
  have hw := where_set hij hi hj hy h h' f
  by_cases h1 : (whereV s m f).2.2 = 0
  case neg =>
    rw [write_err h1, write_err (by rw [hw]; exact h1), hw]
    exact ⟨rfl, fun k => absurd k h1⟩
  have hv := found_err h hj hx h1
  rw [write_at hv (show xOf s m ((j : Int), (false, 0)) = x by unfold xOf; simp [hx]),
    write_at (hw.trans hv) (show xOf (setS s i y) m ((j : Int), (false, 0)) = x by
      unfold xOf
      simp only [Bool.false_eq_true, if_false, Int.toNat_natCast]
      rw [setS_get, if_neg hij, hx]; rfl)]
  have e : (setS s i y).1 = s.1 := rfl
  rw [e]
  by_cases h2 : (putE s.1 x f).2 = 0
  case neg =>
    rw [if_pos h2, if_pos h2]
    exact ⟨rfl, fun k => absurd k h2⟩
  rw [if_neg (fun k => k h2), if_neg (fun k => k h2)]
  exact ⟨rfl, fun _ => ⟨_, rfl, rfl⟩⟩
theorem set_comm' {s : Sta} {i j : Nat} (hij : i ≠ j) (y z : Ser) : setS (setS s i y) j z = setS (setS s j z) i y := by
  unfold setS
  simp only [List.set_comm _ _ hij]
end Go.Proofs.YthjnbidgliejkaaGreat

namespace Go.Proofs.YthjnbidgliejkaaGreat
open Go.Flat Go.Plim
set_option linter.unusedVariables false
set_option linter.unusedSimpArgs false
def Moves (s : Sta) (now : Int) : Prop := StaOk s ∧ s.2.1 < now ∧ now < 35184372088832
noncomputable instance (s now) : Decidable (Moves s now) := Classical.propDecidable _
def tickS (s : Sta) (now : Int) : Sta := (s.1, (now, s.2.2))
noncomputable def tickV (s : Sta) (now : Int) : Sta × Bool := if Moves s now then (tickS s now, true) else (s, false)
theorem cascade_tick (n : Nat) {s : Sta} (hw : StaW s) (now : Int) : cascade_Tick (n + 15) s now = some (tickV s now) := by
  rw [cascade_Tick_eq, state_check n hw]
  unfold tickV
  simp only [tif_dec, tif_not, obind_some]
  by_cases h : Moves s now
  · rw [if_neg (by have := h.2.1; omega), if_neg (by have := h.2.2; omega), if_pos h.1, if_pos rfl, if_pos h]; rfl
  · rw [if_neg h]
    by_cases h1 : now ≤ s.2.1
    · rw [if_pos h1]
    rw [if_neg h1]
    by_cases h2 : 35184372088832 ≤ now
    · rw [if_pos h2]
    rw [if_neg h2, if_neg (fun k : StaOk s => h ⟨k, by omega, by omega⟩)]; rfl
theorem tickS_w {s : Sta} (hw : StaW s) (now : Int) : StaW (tickS s now) := ⟨hw.len, hw.ser⟩
theorem tickV_w {s : Sta} (hw : StaW s) (now : Int) : StaW (tickV s now).1 := by
  unfold tickV; split
  · exact tickS_w hw now
  · exact hw
theorem tick_ok {s : Sta} {now : Int} (h : Moves s now) : StaOk (tickS s now) := by
  obtain ⟨h, h1, h2⟩ := h
  have t0 := h.clock.1.1
  have hr := h.whole.1.rng.w0
  refine ⟨h.whole, ⟨⟨by show 0 ≤ now; omega, h2⟩, h.clock.2.1, by have := h.clock.2.2; show s.2.2.1 ≤ now; omega⟩, fun i x hx => ?_⟩
  rcases h.right i x hx with k | ⟨k1, k2, k3, k4⟩
  · exact .inl k
  · refine .inr ⟨k1, k2, ?_, k4⟩
    have : mk s ≤ mk (tickS s now) := Int.mul_le_mul_of_nonneg_right (Int.ediv_le_ediv (by omega) (by show s.2.1 ≤ now; omega)) (by omega)
    show x.2.1 < mk (tickS s now) + s.1.2.1.1
    omega
/-! ### kept -/
def tierW (c : Conf) (k : Int) : Int := if k = 0 then c.2.1.1 else if k = 1 then c.2.1.2.1 else c.2.1.2.2
def tierN (c : Conf) (k : Int) : Int := if k = 0 then c.2.2.1.1 else if k = 1 then c.2.2.1.2.1 else c.2.2.1.2.2
noncomputable def keptV (s : Sta) (k : Int) : Int × (Int × Int) :=
  if StaOk s then (if k < 0 ∨ 2 < k then (0, (0, 1)) else ((oldV s.2.1 (tierW s.1 k) (tierN s.1 k)).1, (s.2.1 / tierW s.1 k, 0))) else (0, (0, 2))
theorem old_none {now w m : Int} (h : OfP now w) (hm : 1 ≤ m ∧ m ≤ 4096) : (oldV now w m).2 = 0 := by
  unfold oldV; rw [if_pos ⟨h, hm.1, hm.2⟩]
theorem cascade_kept (n : Nat) {s : Sta} (hw : StaW s) (k : Int) : cascade_Kept (n + 16) s k = some (keptV s k) := by
  rw [cascade_Kept_eq, cascade_tiers_eq, state_check n hw]
  unfold keptV
  by_cases h : StaOk s
  case neg => rw [if_neg h, if_neg h]; rfl
  rw [if_pos h, if_pos h]
  have hr := h.whole.1.rng
  have ht := h.clock.1
  simp only [obind_some, decide_true, Bool.not_true, tif_false, tif_dec, tif_not, window_oldest (n + 11)]
  by_cases h1 : k < 0
  · rw [if_pos h1, if_pos (Or.inl h1)]; rfl
  rw [if_neg h1]
  by_cases h2 : 3 ≤ k
  · rw [if_pos h2, if_pos (show k < 0 ∨ 2 < k by omega)]; rfl
  rw [if_neg h2, if_neg (show ¬ (k < 0 ∨ 2 < k) by omega)]
  simp only [obind_some, if_true]
  have q0 := quo_at ht hr.w0.1; have q1 := quo_at ht hr.w1.1; have q2 := quo_at ht hr.w2.1
  rcases (by omega : k = 0 ∨ k = 1 ∨ k = 2) with e | e | e
  · subst e
    simp only [if_true, if_neg (nz hr.w0.1), q0, old_none ⟨ht.1, ht.2, hr.w0.1, hr.w0.2⟩ hr.n0]; rfl
  · subst e
    simp only [if_true, if_neg (show ¬ ((1 : Int) = 0) by decide), if_neg (nz hr.w1.1), q1, old_none ⟨ht.1, ht.2, hr.w1.1, hr.w1.2⟩ hr.n1]; rfl
  · subst e
    simp only [if_true, if_neg (show ¬ ((2 : Int) = 0) by decide), if_neg (show ¬ ((2 : Int) = 1) by decide), if_neg (nz hr.w2.1), q2, old_none ⟨ht.1, ht.2, hr.w2.1, hr.w2.2⟩ hr.n2]; rfl
theorem cascade_sealed (n : Nat) {s : Sta} (hw : StaW s) (k : Int) : cascade_Sealed (n + 17) s k = some (keptV s k).2 := by
  rw [cascade_Sealed_eq, cascade_kept n hw]; rfl
noncomputable def stepsV (s : Sta) (now : Int) : Int × (Int × Int) :=
  if Moves s now then (now / s.1.2.1.1 - s.2.1 / s.1.2.1.1, (now / s.1.2.1.2.1 - s.2.1 / s.1.2.1.2.1, now / s.1.2.1.2.2 - s.2.1 / s.1.2.1.2.2)) else (0, (0, 0))
theorem quo_sub {a b w : Int} (ha : 0 ≤ a ∧ a < 35184372088832) (hb : 0 ≤ b ∧ b < 35184372088832) (hw : 1 ≤ w) : IntKind.wrap .i64 (a / w - b / w) = a / w - b / w := by
  have a0 : 0 ≤ a / w := Int.ediv_nonneg ha.1 (by omega)
  have a1 : a / w ≤ a := Int.ediv_le_self _ ha.1
  have b0 : 0 ≤ b / w := Int.ediv_nonneg hb.1 (by omega)
  have b1 : b / w ≤ b := Int.ediv_le_self _ hb.1
  exact w64 (by omega) (by omega)
theorem cascade_steps_l5 (n : Nat) {s t : Sta} (w : Int × (Int × Int)) (hs : TimeP s.2.1) (ht : TimeP t.2.1) (h0 : 1 ≤ w.1) (h1 : 1 ≤ w.2.1) (h2 : 1 ≤ w.2.2) (z : Int × (Int × Int)) (f : Nat) :
    cascade_Steps_l5 n (f + 4) (s, z, (0, (0, 0)), t, w, (0 : Int), ()) = some (.inl (z, ((t.2.1 / w.1 - s.2.1 / w.1, (t.2.1 / w.2.1 - s.2.1 / w.2.1, t.2.1 / w.2.2 - s.2.1 / w.2.2)), ()))) := by
  rw [cascade_Steps_l5_eq]
  simp only [show (decide ((0 : Int) < 3)) = true from rfl, tif_true, decide_true, tif_dec, if_true, if_neg (nz h0), quo_at hs h0, quo_at ht h0, quo_sub ht hs h0, show IntKind.wrap .i64 ((0 : Int) + 1) = 1 from rfl]
  rw [cascade_Steps_l5_eq]
  simp only [show (decide ((1 : Int) < 3)) = true from rfl, tif_true, decide_true, tif_dec, if_true, if_neg (show ¬ ((1 : Int) = 0) by decide), if_neg (nz h1), quo_at hs h1, quo_at ht h1, quo_sub ht hs h1, show IntKind.wrap .i64 ((1 : Int) + 1) = 2 from rfl]
  rw [cascade_Steps_l5_eq]
  simp only [show (decide ((2 : Int) < 3)) = true from rfl, tif_true, decide_true, tif_dec, if_true, if_neg (show ¬ ((2 : Int) = 0) by decide), if_neg (show ¬ ((2 : Int) = 1) by decide), if_neg (nz h2), quo_at hs h2, quo_at ht h2, quo_sub ht hs h2, show IntKind.wrap .i64 ((2 : Int) + 1) = 3 from rfl]
  rw [cascade_Steps_l5_eq, show (decide ((3 : Int) < 3)) = false from rfl, tif_false]
theorem cascade_steps (n : Nat) {s : Sta} (hw : StaW s) (now : Int) : cascade_Steps (n + 16) s now = some (stepsV s now) := by
  rw [cascade_Steps_eq, cascade_tick n hw, obind_some]
  unfold stepsV tickV
  by_cases h : Moves s now
  case neg => rw [if_neg h, if_neg h]; rfl
  rw [if_pos h, if_pos h, tif_true]
  have hr := h.1.whole.1.rng
  have ht := h.1.clock.1
  have hn : TimeP now := ⟨by have := ht.1; have := h.2.1; omega, h.2.2⟩
  have e := cascade_steps_l5 (n + 15) (s := s) (t := tickS s now) s.1.2.1 ht hn hr.w0.1 hr.w1.1 hr.w2.1 (0, (0, 0)) (2 ^ 70 - 4)
  rw [show 2 ^ 70 - 4 + 4 = loopFuel from by decide] at e
  rw [e]; rfl
end Go.Proofs.YthjnbidgliejkaaGreat

namespace Go.Proofs.YthjnbidgliejkaaGreat
open Go.Flat Go.Plim
set_option linter.unusedVariables false
set_option linter.unusedSimpArgs false
/-! ### slots that fade -/
/-! ### a series that is cleared -/
/-! ### no error in a range -/
end Go.Proofs.YthjnbidgliejkaaGreat

namespace Go.Proofs.YthjnbidgliejkaaGreat
open Go.Flat Go.Plim
set_option linter.unusedVariables false
set_option linter.unusedSimpArgs false
structure Ends3 (c : Conf) (s : Ser) : Prop where
  t0 : s.2.1 = -1 ∨ NoBehind s.2.2.2.1.1 (s.2.1 / c.2.1.1) ∧ CellN s.2.2.2.2.2 ∧ s.2.2.2.2.2.2.1.1 / c.2.1.1 = s.2.1 / c.2.1.1
  t1 : s.2.1 = -1 ∨ ∃ m, now1 c s = (m, 0) ∧ NoBehind s.2.2.2.1.2.1 (s.2.1 / c.2.1.2.1) ∧ CellN m ∧ m.2.1.1 / c.2.1.2.1 = s.2.1 / c.2.1.2.1
  t2 : s.2.1 = -1 ∨ ∃ m, now2 c s = (m, 0) ∧ NoBehind s.2.2.2.1.2.2 (s.2.1 / c.2.1.2.2) ∧ CellN m ∧ m.2.1.1 / c.2.1.2.2 = s.2.1 / c.2.1.2.2
/-! ### states -/
end Go.Proofs.YthjnbidgliejkaaGreat

namespace Go.Proofs.YthjnbidgliejkaaGreat
open Go.Flat Go.Plim
set_option linter.unusedVariables false
set_option linter.unusedSimpArgs false
/-! ### cascade -/
theorem written_open {s : Sta} {e : Ev} {l : List Lab} (h : Goes s l e) (k : Int) : s.2.1 / tierW s.1 k ≤ e.1 / tierW s.1 k := by
  have hc := h.st.whole.1
  have hr := hc.rng
  have h0 : s.2.1 / s.1.2.1.1 ≤ e.1 / s.1.2.1.1 := by
    rw [Int.le_ediv_iff_mul_le (by have := hr.w0; omega)]; exact h.lo
  have q1 := fun t => (ediv_mul_ediv (t := t) hr.w0.1 hr.w1.1 hc.m1).2
  have q2 := fun t => (ediv_mul_ediv (t := t) hr.w0.1 hr.w2.1 hc.m02).2
  have p1 := factor_pos hr.w0.1 hr.w1.1 hc.m1
  have p2 := factor_pos hr.w0.1 hr.w2.1 hc.m02
  unfold tierW
  split
  · exact h0
  split
  · rw [← q1 s.2.1, ← q1 e.1]; exact Int.ediv_le_ediv p1 h0
  · rw [← q2 s.2.1, ← q2 e.1]; exact Int.ediv_le_ediv p2 h0
/-- of a wider tier no more are sealed -/
theorem fewer {a b w v : Int} (hw : 1 ≤ w) (hv : 1 ≤ v) (hm : v % w = 0) (h0 : 0 ≤ a) (hab : a ≤ b) : b / v - a / v ≤ b / w - a / w := by
  have p := factor_pos hw hv hm
  rw [← (ediv_mul_ediv (t := b) hw hv hm).2, ← (ediv_mul_ediv (t := a) hw hv hm).2]
  generalize v / w = f at p
  have x0 : a / w ≤ b / w := Int.ediv_le_ediv (by omega) hab
  generalize b / w = y at x0 ⊢
  generalize a / w = x at x0 ⊢
  have h1 := Int.mul_ediv_add_emod y f
  have h2 := Int.mul_ediv_add_emod x f
  have e1 := Int.emod_nonneg y (show f ≠ 0 by omega)
  have e2 := Int.emod_lt_of_pos x p
  have hle : x / f ≤ y / f := Int.ediv_le_ediv p x0
  rcases Int.lt_or_le (y - x) (y / f - x / f) with z | z
  · exfalso
    have hd : 1 ≤ y / f - x / f := by omega
    have : 1 * (y / f - x / f - 1) ≤ f * (y / f - x / f - 1) := Int.mul_le_mul_of_nonneg_right (by omega) (by omega)
    have e3 : f * (y / f - x / f - 1) = f * (y / f) - f * (x / f) - f := by rw [Int.mul_sub, Int.mul_sub, Int.mul_one]
    have e4 := Int.emod_lt_of_pos y p
    have e5 := Int.emod_nonneg x (show f ≠ 0 by omega)
    omega
  · exact z
end Go.Proofs.YthjnbidgliejkaaGreat

namespace Go.Proofs.YthjnbidgliejkaaGreat
open Go.Flat Go.Plim
set_option linter.unusedVariables false
set_option linter.unusedSimpArgs false
theorem find_written {u x : Sta} {l : List Lab} {e : Ev} (h : writeV u l e = (x, 0)) : ∃ i y, findV x l = some i ∧ x.2.2.2[i]? = some y ∧ y.2.1 = e.1 := by
  obtain ⟨hg, i, z, b, y, hp, hput, rfl, _⟩ := write_ok h
  obtain ⟨p1, p2, p3, p4⟩ := place_ok hg hp
  obtain ⟨q1, q2, q3, q4, q5⟩ := serOk_put p1 hput
  have hy : (setS u i y).2.2.2[i]? = some y := by rw [setS_get, if_pos rfl, if_pos p3]
  have hne : y ≠ ser0 := fun k => by
    have e1 : y.1 = [] := congrArg Prod.fst k
    have := q1.lab.n0
    rw [e1] at this; simp at this
  have hl : LvX (setS u i y) y := new_lives (s := u) hg.st hne (by rw [q4]; exact hg.lo) (by rw [q4]; exact hg.ev.t1)
  refine ⟨i, y, findV_some.2 ⟨y, hy, q5.trans p2, hl, fun j hj w hw hn => ?_⟩, hy, q4⟩
  rw [setS_get, if_neg (by omega)] at hw
  cases hp with
  | found hf hx hl hlv ht =>
    obtain ⟨_, _, _, _, first⟩ := findV_some.1 hf
    exact first j hj w hw hn
  | room hf hs hr => exact findV_none.1 hf w (List.mem_of_getElem? hw) hn
theorem find_tick (x : Sta) (now : Int) (l : List Lab) : findV (tickV x now).1 l = findV x l := by
  unfold tickV
  split <;> rfl
theorem places_tick (x : Sta) (now : Int) : (tickV x now).1.2.2.2 = x.2.2.2 := by
  unfold tickV
  split <;> rfl
theorem open_same {u : Sta} {l : List Lab} {e : Ev} (h : Goes u l e) : e.1 / u.1.2.1.1 = u.2.1 / u.1.2.1.1 := by
  have hr := h.st.whole.1.rng
  have h1 := h.lo; have h2 := h.hi
  unfold mk at h1 h2
  have a1 : u.2.1 / u.1.2.1.1 ≤ e.1 / u.1.2.1.1 := by rw [Int.le_ediv_iff_mul_le (by have := hr.w0; omega)]; exact h1
  have a2 : e.1 / u.1.2.1.1 < u.2.1 / u.1.2.1.1 + 1 := by
    rw [Int.ediv_lt_iff_lt_mul (by have := hr.w0; omega), Int.add_mul, Int.one_mul]; exact h2
  omega
end Go.Proofs.YthjnbidgliejkaaGreat

namespace Go.Proofs.YthjnbidgliejkaaGreat
open Go.Flat
theorem top_begins10_true (n : Nat) : top_begins10 (n + 40) = some true := by kernel_rfl
end Go.Proofs.YthjnbidgliejkaaGreat

namespace Go.Proofs.YthjnbidgliejkaaGreat
open Go.Flat Go.Plim
set_option linter.unusedVariables false
set_option linter.unusedSimpArgs false
theorem labs_le {l : List Lab} (hl : Wf (.slice tyLabel) l) : l.length ≤ 9223372036854775807 := by
  have h1 := hl.1
  simpa only [maxLen] using h1
theorem write_at_found {s : Sta} {l : List Lab} {e : Ev} {i : Nat} (hi : findV s l = some i) (h : (writeV s l e).2 = 0) : ∃ y, writeV s l e = (setS s i y, 0) ∧ y.1 = l ∧ StaOk (setS s i y) := by
  have hw : writeV s l e = ((writeV s l e).1, 0) := Prod.ext rfl h
  have hok := staOk_write hw
  obtain ⟨hg, j, x, b, y, hp, hput, he, _⟩ := write_ok hw
  obtain ⟨p1, p2, p3, p4⟩ := place_ok hg hp
  obtain ⟨q1, q2, q3, q4, q5⟩ := serOk_put p1 hput
  have hij : j = i := by
    cases hp with
    | found hf hx hl hlv ht => rw [hi] at hf; cases hf; rfl
    | room hf hs hr => rw [hi] at hf; cases hf
  subst hij
  rw [he] at hok
  exact ⟨y, by rw [hw, he], q5.trans p2, hok⟩
theorem findR_zero {s : Sta} (h : Whole s) {l : List Lab} (hz : (findR s l).2 = 0) : ∃ i, findV s l = some i ∧ findR s l = ((i : Int), 0) := by
  cases hf : findV s l with
  | none => rw [findR_none h hf] at hz; cases hz
  | some i => exact ⟨i, rfl, findR_some h hf⟩
/-- THE LAW TopTurns -/
theorem topTurns_true (n : Nat) (s : Sta) (l m : List Lab) (e f : Ev) (hs : Wf tyState s) (hl : Wf (.slice tyLabel) l) (hm : Wf (.slice tyLabel) m) (he : Wf tyEvent e) (hf : Wf tyEvent f) : top_TopTurns (n + 41) s l m e f = some true := by
  have hw := sta_wf hs
  have hew := ev_wf he
  have hfw := ev_wf hf
  rw [top_TopTurns_eq, top_begins10_true n, obind_some, Bool.not_true, tif_false]
  rcases l17_small (n + 37) hw with h | ⟨h, _⟩
  · rw [h]; rfl
  rcases l05_small (n + 39) l (labs_le hl) with h1 | h1
  · rw [h, h1]; rfl
  rcases l05_small (n + 39) m (labs_le hm) with h2 | h2
  · rw [h, h1, h2]; rfl
  rw [h, h1, h2, state_check (n + 26) hw]
  simp only [obind_some, show (decide ((1 : Int) = 0)) = false from rfl, tif_false]
  by_cases hok : StaOk s
  case neg => rw [if_neg hok]; rfl
  rw [if_pos hok, state_find (n + 30) hw l, state_find (n + 30) hw m]
  simp only [decide_true, Bool.not_true, tif_false, obind_some, tif_not, tif_dec]
  by_cases h3 : (findR s l).2 = 0
  case neg => rw [if_neg h3]
  by_cases h4 : (findR s m).2 = 0
  case neg => rw [if_pos h3, if_neg h4]
  obtain ⟨i, hi, e3⟩ := findR_zero hok.whole h3
  obtain ⟨j, hj, e4⟩ := findR_zero hok.whole h4
  rw [if_pos h3, if_pos h4, e3, e4]
  by_cases hij' : ((i : Int), (0 : Int)).1 = ((j : Int), (0 : Int)).1
  · rw [if_pos hij']
  have hij : i ≠ j := fun k => hij' (by rw [k])
  rw [if_neg hij', write_one (n + 16) hw l hew, write_one (n + 16) hw m hfw]
  simp only [obind_some]
  have wA := writeV_w hw l e
  have wB := writeV_w hw m f
  by_cases hA : (writeV s l e).2 = 0
  · obtain ⟨y, ey, ly, oky⟩ := write_at_found hi hA
    obtain ⟨q1, q2⟩ := write_set hij hi hj ly hok oky f
    rw [if_pos hA, write_one (n + 16) wA m hfw, ey]
    simp only [obind_some]
    rw [if_pos q1]
    by_cases hB : (writeV s m f).2 = 0
    · obtain ⟨z, ez, lz, okz⟩ := write_at_found hj hB
      obtain ⟨z', ez1, ez2⟩ := q2 hB
      obtain ⟨p1, p2⟩ := write_set (Ne.symm hij) hj hi lz hok okz e
      obtain ⟨y', ey1, ey2⟩ := p2 hA
      rw [if_pos hB, write_one (n + 16) wB l hew, ez, ey2]
      simp only [obind_some, if_true]
      have a1 : setS s j z' = setS s j z := congrArg Prod.fst (ez1.symm.trans ez)
      have a2 : setS s i y' = setS s i y := congrArg Prod.fst (ey1.symm.trans ey)
      have e5 : setS (setS s i y) j z' = setS (setS s j z) i y' := by
        rw [set_comm' hij, a1, ← set_comm' hij, ← a2, set_comm' hij]
      rw [ez2]
      simp only
      have wz : StaW (setS (setS s i y) j z') := by
        have := writeV_w (s := setS s i y) (by have := wA; rw [ey] at this; exact this) m f
        rw [ez2] at this; exact this
      rw [state_same (n + 35) wz, obind_some, decide_eq_true e5]
    · rw [if_neg hB]
      simp only [if_true]
      rw [if_neg hB]
  · rw [if_neg hA]
    by_cases hB : (writeV s m f).2 = 0
    · obtain ⟨z, ez, lz, okz⟩ := write_at_found hj hB
      obtain ⟨p1, p2⟩ := write_set (Ne.symm hij) hj hi lz hok okz e
      rw [if_pos hB, write_one (n + 16) wB l hew, ez]
      simp only [obind_some]
      rw [if_pos p1, if_neg hA]
    · rw [if_neg hB, if_neg hA]
theorem steps_sum {a b c w : Int} (ha : 0 ≤ a ∧ a < 35184372088832) (hb : 0 ≤ b ∧ b < 35184372088832) (hc : 0 ≤ c ∧ c < 35184372088832) (hw : 1 ≤ w) : IntKind.wrap .i64 ((b / w - a / w) + (c / w - b / w)) = c / w - a / w := by
  have a0 : 0 ≤ a / w := Int.ediv_nonneg ha.1 (by omega)
  have a1 : a / w ≤ a := Int.ediv_le_self _ ha.1
  have b0 : 0 ≤ c / w := Int.ediv_nonneg hc.1 (by omega)
  have b1 : c / w ≤ c := Int.ediv_le_self _ hc.1
  rw [w64 (by omega) (by omega)]; omega
/-- THE LAW TopSteps -/
theorem topSteps_true (n : Nat) (s : Sta) (a b : Int) (l : List Lab) (e : Ev) (hs : Wf tyState s) (hl : Wf (.slice tyLabel) l) (he : Wf tyEvent e) : top_TopSteps (n + 41) s a b l e = some true := by
  have hw := sta_wf hs
  have hew := ev_wf he
  rw [top_TopSteps_eq, top_begins10_true n, obind_some, Bool.not_true, tif_false]
  rcases l17_small (n + 37) hw with h | ⟨h, _⟩
  · rw [h]; rfl
  rcases l05_small (n + 39) l (labs_le hl) with h1 | h1
  · rw [h, h1]; rfl
  rw [h, h1, state_check (n + 26) hw]
  simp only [obind_some, show (decide ((1 : Int) = 0)) = false from rfl, tif_false]
  by_cases hok : StaOk s
  case neg => rw [if_neg hok]; rfl
  rw [if_pos hok, cascade_tick (n + 25) hw a]
  simp only [decide_true, Bool.not_true, tif_false, obind_some]
  by_cases hm : Moves s a
  case neg =>
    have e1 : tickV s a = (s, false) := if_neg hm
    rw [e1, cascade_tick (n + 25) hw b, obind_some, Bool.not_false, tif_true, state_same (n + 35) hw, obind_some, decide_eq_true rfl]
  have e1 : tickV s a = (tickS s a, true) := if_pos hm
  have wt := tickS_w hw a
  have okt := tick_ok hm
  rw [e1]
  simp only [Bool.not_true, tif_false]
  rw [cascade_tick (n + 25) wt b, obind_some]
  have ta : TimeP a := okt.clock.1
  have ts : TimeP s.2.1 := hok.clock.1
  by_cases hm2 : Moves (tickS s a) b
  case neg =>
    have e2 : tickV (tickS s a) b = (tickS s a, false) := if_neg hm2
    rw [e2, Bool.not_false, tif_true, state_same (n + 35) wt, obind_some, decide_eq_true rfl, tif_true, tif_dec]
    by_cases hb : b ≤ a
    · rw [if_pos hb]
    · rw [if_neg hb, decide_eq_true]
      exact Decidable.byContradiction fun k => hm2 ⟨okt, by show a < b; omega, by omega⟩
  have e2 : tickV (tickS s a) b = (tickS s b, true) := if_pos hm2
  have h2 : a < b := hm2.2.1
  have h1' := hm.2.1
  have hm3 : Moves s b := ⟨hok, by omega, hm2.2.2⟩
  have e3 : tickV s b = (tickS s b, true) := if_pos hm3
  have tb : TimeP b := ⟨by have := ta.1; omega, hm2.2.2⟩
  have wu := tickS_w hw b
  have oku := tick_ok hm3
  have hr := hok.whole.1.rng
  rw [e2]
  simp only [Bool.not_true, tif_false]
  rw [cascade_tick (n + 25) hw b, e3, cascade_steps (n + 24) hw a, cascade_steps (n + 24) wt b, cascade_steps (n + 24) hw b]
  have s1 : stepsV s a = (a / s.1.2.1.1 - s.2.1 / s.1.2.1.1, (a / s.1.2.1.2.1 - s.2.1 / s.1.2.1.2.1, a / s.1.2.1.2.2 - s.2.1 / s.1.2.1.2.2)) := if_pos hm
  have s2 : stepsV (tickS s a) b = (b / s.1.2.1.1 - a / s.1.2.1.1, (b / s.1.2.1.2.1 - a / s.1.2.1.2.1, b / s.1.2.1.2.2 - a / s.1.2.1.2.2)) := if_pos hm2
  have s3 : stepsV s b = (b / s.1.2.1.1 - s.2.1 / s.1.2.1.1, (b / s.1.2.1.2.1 - s.2.1 / s.1.2.1.2.1, b / s.1.2.1.2.2 - s.2.1 / s.1.2.1.2.2)) := if_pos hm3
  rw [s1, s2, s3]
  simp only [obind_some, steps_sum ts ta tb hr.w0.1, steps_sum ts ta tb hr.w1.1, steps_sum ts ta tb hr.w2.1, decide_true, Bool.not_true, tif_false]
  rw [state_same (n + 35) wu, decide_eq_true rfl, write_one (n + 16) wu l hew]
  simp only [obind_some, Bool.not_true, tif_false, tif_true, tif_not, tif_dec]
  by_cases h3 : (writeV (tickS s b) l e).2 = 0
  case neg => rw [if_neg h3]
  have hwr : writeV (tickS s b) l e = ((writeV (tickS s b) l e).1, 0) := Prod.ext rfl h3
  obtain ⟨i, y, f1, f2, f3⟩ := find_written hwr
  obtain ⟨hg, _⟩ := write_ok hwr
  have wx := writeV_w wu l e
  have okx := staOk_write hwr
  generalize writeV (tickS s b) l e = X at *
  have wy := tickV_w wx (IntKind.wrap .i64 (b + s.1.2.1.2.2))
  rw [if_pos h3, cascade_sealed (n + 23) wu 0, cascade_tick (n + 25) wx]
  simp only [obind_some]
  rw [state_find (n + 30) wy l, obind_some]
  have hwhole : Whole (tickV X.1 (IntKind.wrap .i64 (b + s.1.2.1.2.2))).1 := by
    unfold tickV
    split
    · exact okx.whole
    · exact okx.whole
  have hfr : findR (tickV X.1 (IntKind.wrap .i64 (b + s.1.2.1.2.2))).1 l = ((i : Int), 0) := findR_some hwhole (by rw [find_tick]; exact f1)
  have hk0 : keptV (tickS s b) 0 = ((oldV b s.1.2.1.1 s.1.2.2.1.1).1, (b / s.1.2.1.1, 0)) := by
    unfold keptV
    rw [if_pos oku, if_neg (by decide)]; rfl
  rw [hfr, hk0, places_tick]
  simp only
  have hlen := (List.getElem?_eq_some_iff.1 f2).1
  have ho : e.1 / s.1.2.1.1 = b / s.1.2.1.1 := open_same hg
  rw [if_pos trivial, if_neg (nz hr.w0.1), quo_ev hg.ev hr.w0.1, if_pos ho, if_pos trivial, if_pos (by omega), at_el f2, obind_some, f3, decide_eq_true rfl]
end Go.Proofs.YthjnbidgliejkaaGreat

namespace Go.Proofs.YthjnbidgliejkaaGreat
open Go.Flat
theorem l20_lives_true (n : Nat) : l20_lives (n + 40) = some true := by kernel_rfl
end Go.Proofs.YthjnbidgliejkaaGreat

namespace Go.Proofs.YthjnbidgliejkaaGreat
open Go.Flat Go.Plim
set_option linter.unusedVariables false
set_option linter.unusedSimpArgs false
structure Ticked (s : Sta) (now : Int) (T : Sta) : Prop where
  ok : StaOk T
  c : T.1 = s.1
  le : s.2.1 ≤ T.2.1
  is : (tickV s now).2 = decide (s.2.1 < T.2.1)
  st : stepsV s now = (T.2.1 / s.1.2.1.1 - s.2.1 / s.1.2.1.1, (T.2.1 / s.1.2.1.2.1 - s.2.1 / s.1.2.1.2.1, T.2.1 / s.1.2.1.2.2 - s.2.1 / s.1.2.1.2.2))
theorem ticked {s : Sta} (h : StaOk s) (now : Int) : Ticked s now (tickV s now).1 := by
  by_cases hm : Moves s now
  · have e : tickV s now = (tickS s now, true) := if_pos hm
    have h1 := hm.2.1
    rw [e]
    exact ⟨tick_ok hm, rfl, by show s.2.1 ≤ now; omega, by rw [e]; exact (decide_eq_true h1).symm, if_pos hm⟩
  · have e : tickV s now = (s, false) := if_neg hm
    rw [e]
    refine ⟨h, rfl, Int.le_refl _, by rw [e]; exact (decide_eq_false (Int.lt_irrefl _)).symm, ?_⟩
    unfold stepsV
    rw [if_neg hm, Int.sub_self, Int.sub_self, Int.sub_self]
theorem kept_tail {t w m : Int} (ht : TimeP t) (hw : 1 ≤ w ∧ w ≤ 1099511627776) (hm : 1 ≤ m ∧ m ≤ 4096) : (oldV t w m).1 ≤ t / w ∧ IntKind.wrap .i64 (t / w - (oldV t w m).1) < m := by
  have a0 : 0 ≤ t / w := Int.ediv_nonneg ht.1 (by omega)
  have a1 : t / w ≤ t := Int.ediv_le_self _ ht.1
  have h2 := ht.2
  unfold oldV
  rw [if_pos (show OfP t w ∧ 1 ≤ m ∧ m ≤ 4096 from ⟨⟨ht.1, ht.2, hw.1, hw.2⟩, hm.1, hm.2⟩)]
  simp only
  split
  · rw [w64 (by omega) (by omega)]; omega
  · rw [w64 (by omega) (by omega)]; omega
theorem keptV_val {s : Sta} (h : StaOk s) {k : Int} (h0 : 0 ≤ k) (h2 : k ≤ 2) : keptV s k = ((oldV s.2.1 (tierW s.1 k) (tierN s.1 k)).1, (s.2.1 / tierW s.1 k, 0)) := by
  unfold keptV; rw [if_pos h, if_neg (by omega)]
/-- THE LAW CascadeBack -/
theorem cascadeBack_true (n : Nat) (s : Sta) (now : Int) (l : List Lab) (e : Ev) (k : Int) (hs : Wf tyState s) (hl : Wf (.slice tyLabel) l) (he : Wf tyEvent e) : l20_CascadeBack (n + 41) s now l e k = some true := by
  have hw := sta_wf hs
  have hew := ev_wf he
  rw [l20_CascadeBack_eq]
  by_cases k0 : k = 0
  · rw [decide_eq_true k0, tif_true, l20_lives_true n, obind_some, Bool.not_true, tif_false]
    rcases l17_small (n + 37) hw with h | ⟨h, _⟩
    · rw [h]; rfl
    rcases l05_small (n + 39) l (labs_le hl) with h1 | h1
    · rw [h, h1]; rfl
    rw [h, h1, state_check (n + 26) hw]
    simp only [obind_some, show (decide ((1 : Int) = 0)) = false from rfl, tif_false]
    by_cases hok : StaOk s
    case neg => rw [if_neg hok]; rfl
    rw [if_pos hok, cascade_tick (n + 25) hw now]
    simp only [decide_true, Bool.not_true, tif_false, obind_some]
    have hr := hok.whole.1.rng
    have ht := ticked hok now
    have wt := tickV_w hw now
    have is := ht.is
    have ks := keptV_val hok (show (0 : Int) ≤ 0 by decide) (by decide)
    have kt := keptV_val ht.ok (show (0 : Int) ≤ 0 by decide) (by decide)
    have wo := fun (g : Goes (tickV s now).1 l e) => written_open g 0
    rw [ht.c] at kt
    have ew : tierW s.1 0 = s.1.2.1.1 := rfl
    have en : tierN s.1 0 = s.1.2.2.1.1 := rfl
    rw [ew, en] at ks kt
    have ts := hok.clock.1
    have tt := ht.ok.clock.1
    rw [cascade_sealed (n + 23) hw 0, cascade_sealed (n + 23) wt 0, cascade_steps (n + 24) hw now, state_check (n + 26) wt, ks, kt, ht.st, is, if_pos ht.ok]
    rw [show tierW (tickV s now).1.1 0 = s.1.2.1.1 by rw [ht.c]; rfl] at wo
    generalize hT : (tickV s now).1 = T at *
    simp only [obind_some, decide_true, Bool.not_true, tif_false, BEq.rfl, quo_sub tt ts hr.w0.1]
    rw [decide_eq_false (show ¬ T.2.1 < s.2.1 by have := ht.le; omega), tif_false, decide_eq_false (show ¬ T.2.1 / s.1.2.1.1 < s.2.1 / s.1.2.1.1 by have : s.2.1 / s.1.2.1.1 ≤ T.2.1 / s.1.2.1.1 := Int.ediv_le_ediv (by have := hr.w0; omega) ht.le; omega), tif_false]
    rw [write_one (n + 16) wt l hew, cascade_kept (n + 24) wt 0, kt]
    obtain ⟨z1, z2⟩ := kept_tail tt hr.w0 hr.n0
    simp only [obind_some, decide_true, tif_true, decide_eq_true z1, decide_eq_true z2]
    by_cases h3 : (writeV T l e).2 = 0
    case neg => rw [decide_eq_false h3, tif_false]
    have hwr : writeV T l e = ((writeV T l e).1, 0) := Prod.ext rfl h3
    obtain ⟨hg, _⟩ := write_ok hwr
    rw [decide_eq_true h3, tif_true, decide_eq_false (nz hr.w0.1), tif_false, quo_ev hg.ev hr.w0.1, decide_eq_false (by have := wo hg; omega), tif_false]
  rw [decide_eq_false k0, tif_false]
  by_cases k1 : k = 1
  · rw [decide_eq_true k1, tif_true, l20_lives_true n, obind_some, Bool.not_true, tif_false]
    rcases l17_small (n + 37) hw with h | ⟨h, _⟩
    · rw [h]; rfl
    rcases l05_small (n + 39) l (labs_le hl) with h1 | h1
    · rw [h, h1]; rfl
    rw [h, h1, state_check (n + 26) hw]
    simp only [obind_some, show (decide ((1 : Int) = 0)) = false from rfl, tif_false]
    by_cases hok : StaOk s
    case neg => rw [if_neg hok]; rfl
    rw [if_pos hok, cascade_tick (n + 25) hw now]
    simp only [decide_true, Bool.not_true, tif_false, obind_some]
    have hr := hok.whole.1.rng
    have ht := ticked hok now
    have wt := tickV_w hw now
    have is := ht.is
    have ks := keptV_val hok (show (0 : Int) ≤ 1 by decide) (by decide)
    have kt := keptV_val ht.ok (show (0 : Int) ≤ 1 by decide) (by decide)
    have wo := fun (g : Goes (tickV s now).1 l e) => written_open g 1
    rw [ht.c] at kt
    have ew : tierW s.1 1 = s.1.2.1.2.1 := rfl
    have en : tierN s.1 1 = s.1.2.2.1.2.1 := rfl
    rw [ew, en] at ks kt
    have ts := hok.clock.1
    have tt := ht.ok.clock.1
    rw [cascade_sealed (n + 23) hw 1, cascade_sealed (n + 23) wt 1, cascade_steps (n + 24) hw now, state_check (n + 26) wt, ks, kt, ht.st, is, if_pos ht.ok]
    rw [show tierW (tickV s now).1.1 1 = s.1.2.1.2.1 by rw [ht.c]; rfl] at wo
    generalize hT : (tickV s now).1 = T at *
    simp only [obind_some, decide_true, Bool.not_true, tif_false, BEq.rfl, quo_sub tt ts hr.w1.1]
    rw [decide_eq_false (show ¬ T.2.1 < s.2.1 by have := ht.le; omega), tif_false, decide_eq_false (show ¬ T.2.1 / s.1.2.1.2.1 < s.2.1 / s.1.2.1.2.1 by have : s.2.1 / s.1.2.1.2.1 ≤ T.2.1 / s.1.2.1.2.1 := Int.ediv_le_ediv (by have := hr.w1; omega) ht.le; omega), tif_false]
    have few : ¬ (T.2.1 / s.1.2.1.1 - s.2.1 / s.1.2.1.1 < T.2.1 / s.1.2.1.2.1 - s.2.1 / s.1.2.1.2.1) := by
      have := fewer hr.w0.1 hr.w1.1 hok.whole.1.m1 ts.1 ht.le
      omega
    rw [decide_eq_false few, tif_false]
    rw [write_one (n + 16) wt l hew, cascade_kept (n + 24) wt 1, kt]
    obtain ⟨z1, z2⟩ := kept_tail tt hr.w1 hr.n1
    simp only [obind_some, decide_true, tif_true, decide_eq_true z1, decide_eq_true z2]
    by_cases h3 : (writeV T l e).2 = 0
    case neg => rw [decide_eq_false h3, tif_false]
    have hwr : writeV T l e = ((writeV T l e).1, 0) := Prod.ext rfl h3
    obtain ⟨hg, _⟩ := write_ok hwr
    rw [decide_eq_true h3, tif_true, decide_eq_false (nz hr.w1.1), tif_false, quo_ev hg.ev hr.w1.1, decide_eq_false (by have := wo hg; omega), tif_false]
  rw [decide_eq_false k1, tif_false]
  by_cases k2 : k = 2
  · rw [decide_eq_true k2, tif_true, l20_lives_true n, obind_some, Bool.not_true, tif_false]
    rcases l17_small (n + 37) hw with h | ⟨h, _⟩
    · rw [h]; rfl
    rcases l05_small (n + 39) l (labs_le hl) with h1 | h1
    · rw [h, h1]; rfl
    rw [h, h1, state_check (n + 26) hw]
    simp only [obind_some, show (decide ((1 : Int) = 0)) = false from rfl, tif_false]
    by_cases hok : StaOk s
    case neg => rw [if_neg hok]; rfl
    rw [if_pos hok, cascade_tick (n + 25) hw now]
    simp only [decide_true, Bool.not_true, tif_false, obind_some]
    have hr := hok.whole.1.rng
    have ht := ticked hok now
    have wt := tickV_w hw now
    have is := ht.is
    have ks := keptV_val hok (show (0 : Int) ≤ 2 by decide) (by decide)
    have kt := keptV_val ht.ok (show (0 : Int) ≤ 2 by decide) (by decide)
    have wo := fun (g : Goes (tickV s now).1 l e) => written_open g 2
    rw [ht.c] at kt
    have ew : tierW s.1 2 = s.1.2.1.2.2 := rfl
    have en : tierN s.1 2 = s.1.2.2.1.2.2 := rfl
    rw [ew, en] at ks kt
    have ts := hok.clock.1
    have tt := ht.ok.clock.1
    rw [cascade_sealed (n + 23) hw 2, cascade_sealed (n + 23) wt 2, cascade_steps (n + 24) hw now, state_check (n + 26) wt, ks, kt, ht.st, is, if_pos ht.ok]
    rw [show tierW (tickV s now).1.1 2 = s.1.2.1.2.2 by rw [ht.c]; rfl] at wo
    generalize hT : (tickV s now).1 = T at *
    simp only [obind_some, decide_true, Bool.not_true, tif_false, BEq.rfl, quo_sub tt ts hr.w2.1]
    rw [decide_eq_false (show ¬ T.2.1 < s.2.1 by have := ht.le; omega), tif_false, decide_eq_false (show ¬ T.2.1 / s.1.2.1.2.2 < s.2.1 / s.1.2.1.2.2 by have : s.2.1 / s.1.2.1.2.2 ≤ T.2.1 / s.1.2.1.2.2 := Int.ediv_le_ediv (by have := hr.w2; omega) ht.le; omega), tif_false]
    have few : ¬ (T.2.1 / s.1.2.1.2.1 - s.2.1 / s.1.2.1.2.1 < T.2.1 / s.1.2.1.2.2 - s.2.1 / s.1.2.1.2.2) := by
      have := fewer hr.w1.1 hr.w2.1 hok.whole.1.m2 ts.1 ht.le
      omega
    rw [decide_eq_false few, tif_false]
    rw [write_one (n + 16) wt l hew, cascade_kept (n + 24) wt 2, kt]
    obtain ⟨z1, z2⟩ := kept_tail tt hr.w2 hr.n2
    simp only [obind_some, decide_true, tif_true, decide_eq_true z1, decide_eq_true z2]
    by_cases h3 : (writeV T l e).2 = 0
    case neg => rw [decide_eq_false h3, tif_false]
    have hwr : writeV T l e = ((writeV T l e).1, 0) := Prod.ext rfl h3
    obtain ⟨hg, _⟩ := write_ok hwr
    rw [decide_eq_true h3, tif_true, decide_eq_false (nz hr.w2.1), tif_false, quo_ev hg.ev hr.w2.1, decide_eq_false (by have := wo hg; omega), tif_false]
  rw [decide_eq_false k2, tif_false]
  rw [l20_lives_true n, obind_some, Bool.not_true, tif_false]
  rcases l17_small (n + 37) hw with h | ⟨h, _⟩
  · rw [h]; rfl
  rcases l05_small (n + 39) l (labs_le hl) with h1 | h1
  · rw [h, h1]; rfl
  rw [h, h1, state_check (n + 26) hw, obind_some, show (decide ((1 : Int) = 0)) = false from rfl, tif_false, obind_some, show (decide ((1 : Int) = 0)) = false from rfl, tif_false, obind_some]
  by_cases hok : StaOk s
  case neg => rw [if_neg hok]; rfl
  rw [if_pos hok, show (decide ((0 : Int) = 0)) = true from rfl, Bool.not_true, tif_false]
  by_cases k3 : k < 0
  · rw [decide_eq_true k3, tif_true]
  · rw [decide_eq_false k3, tif_false, decide_eq_true (show 2 < k by omega), tif_true]
end Go.Proofs.YthjnbidgliejkaaGreat
