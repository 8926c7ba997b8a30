/-
  Plain laws of three tiers: which are right, a window that is made, and windows that are over.
-/
import Derived.Test.YtapadkjknnfifaaGreatM13b
import Derived.Test.YtapadkjknnfifaaGreatP10
namespace Go.Proofs.YtapadkjknnfifaaGreat
open Go.Flat Go.Plim
set_option linter.unusedVariables false
abbrev Trs := List Slo × (List Slo × List Slo)
noncomputable instance (c : Conf) : Decidable (OkC c) := Classical.propDecidable _
/-- tiers that are right for a configuration -/
structure FoldOk (c : Conf) (s : Trs) : Prop where
  cok : OkC c
  n0 : (s.1.length : Int) = c.2.2.1.1
  n1 : (s.2.1.length : Int) = c.2.2.1.2.1
  n2 : (s.2.2.length : Int) = c.2.2.1.2.2
  t0 : TierOk s.1 c.2.1.1
  t1 : TierOk s.2.1 c.2.1.2.1
  t2 : TierOk s.2.2 c.2.1.2.2
noncomputable instance (c : Conf) (s : Trs) : Decidable (FoldOk c s) := Classical.propDecidable _
/-- a window of the second tier, and of the third one, made of those below -/
def mk1 (c : Conf) (s : Trs) (i : Int) : Cel × Int := tfold s.1 (i * (c.2.1.2.1 / c.2.1.1)) ((i + 1) * (c.2.1.2.1 / c.2.1.1))
def mk2 (c : Conf) (s : Trs) (i : Int) : Cel × Int := tfold s.2.1 (i * (c.2.1.2.2 / c.2.1.2.1)) ((i + 1) * (c.2.1.2.2 / c.2.1.2.1))
noncomputable def up1 (c : Conf) (s : Trs) (i j : Int) : Trs :=
  if i * c.2.1.1 / c.2.1.2.1 = j * c.2.1.1 / c.2.1.2.1 then s
  else if (mk1 c s (i * c.2.1.1 / c.2.1.2.1)).2 = 0 ∧ FitsP (mk1 c s (i * c.2.1.1 / c.2.1.2.1)).1 c.2.1.2.1 (i * c.2.1.1 / c.2.1.2.1) then (s.1, (tput s.2.1 (i * c.2.1.1 / c.2.1.2.1) (mk1 c s (i * c.2.1.1 / c.2.1.2.1)).1, s.2.2))
  else s
noncomputable def up2 (c : Conf) (s : Trs) (i j : Int) : Trs :=
  if i * c.2.1.1 / c.2.1.2.2 = j * c.2.1.1 / c.2.1.2.2 then s
  else if (mk2 c s (i * c.2.1.1 / c.2.1.2.2)).2 = 0 ∧ FitsP (mk2 c s (i * c.2.1.1 / c.2.1.2.2)).1 c.2.1.2.2 (i * c.2.1.1 / c.2.1.2.2) then (s.1, (s.2.1, tput s.2.2 (i * c.2.1.1 / c.2.1.2.2) (mk2 c s (i * c.2.1.1 / c.2.1.2.2)).1))
  else s
noncomputable def upw (c : Conf) (s : Trs) (i j : Int) : Trs := up2 c (up1 c s i j) i j
theorem up1_ok {c : Conf} {s : Trs} (h : FoldOk c s) (i j : Int) : FoldOk c (up1 c s i j) := by
  unfold up1
  split
  · exact h
  · split
    · rename_i k
      exact ⟨h.cok, h.n0, by simpa [tput] using h.n1, h.n2, h.t0, tput_ok h.t1 k.2, h.t2⟩
    · exact h
theorem up2_ok {c : Conf} {s : Trs} (h : FoldOk c s) (i j : Int) : FoldOk c (up2 c s i j) := by
  unfold up2
  split
  · exact h
  · split
    · rename_i k
      exact ⟨h.cok, h.n0, h.n1, by simpa [tput] using h.n2, h.t0, h.t1, tput_ok h.t2 k.2⟩
    · exact h
theorem upw_ok {c : Conf} {s : Trs} (h : FoldOk c s) (i j : Int) : FoldOk c (upw c s i j) := up2_ok (up1_ok h i j) i j
/-! ### numbers that need no wrap -/
theorem mul_div_le {a w m : Int} (hw : 1 ≤ w) (h : a ≤ m / w) : a * w ≤ m :=
  Int.le_trans (Int.mul_le_mul_of_nonneg_right h (by omega)) (Int.ediv_mul_le m (by omega))
/-- a window that begins in time -/
def Begins (w i : Int) : Prop := 0 ≤ i ∧ i ≤ 35184372088831 / w
instance (w i : Int) : Decidable (Begins w i) := by unfold Begins; infer_instance
theorem Begins.mul {w i : Int} (hw : 1 ≤ w) (h : Begins w i) : 0 ≤ i * w ∧ i * w ≤ 35184372088831 := ⟨Int.mul_nonneg h.1 (by omega), mul_div_le hw h.2⟩
theorem div_begins {x w : Int} (hw : 1 ≤ w) (h : 0 ≤ x ∧ x ≤ 35184372088831) : Begins w (x / w) := ⟨Int.ediv_nonneg h.1 (by omega), Int.ediv_le_ediv (by omega) h.2⟩
theorem begins_small {w i : Int} (hw : 1 ≤ w) (h : Begins w i) : i ≤ 35184372088831 := by
  have := Int.ediv_le_self w (a := 35184372088831) (by decide)
  have := h.2
  omega
/-- a window's ends, as windows of the tier below -/
theorem made_range {a b i : Int} (ha : 1 ≤ a ∧ a ≤ 1099511627776) (hb : 1 ≤ b ∧ b ≤ 1099511627776) (hm : b % a = 0) (h : Begins b i) :
    1 ≤ b / a ∧ b / a ≤ 1099511627776 ∧ b / a * a = b ∧ 0 ≤ i * (b / a) ∧ i * (b / a) ≤ 35184372088831 ∧ (i + 1) * (b / a) = i * (b / a) + b / a := by
  have e : b / a * a = b := by have := Int.mul_ediv_add_emod b a; rw [Int.mul_comm]; omega
  have h0 : 0 ≤ b / a := Int.ediv_nonneg (by omega) (by omega)
  have h1 : b / a ≤ b := Int.ediv_le_self _ (by omega)
  have h2 : 1 ≤ b / a := by
    rcases Int.lt_or_le 0 (b / a) with k | k
    · omega
    · have : b / a = 0 := by omega
      rw [this] at e; omega
  have hi := h.mul hb.1
  have h3 : 0 ≤ i * (b / a) := Int.mul_nonneg h.1 h0
  have h4 : i * (b / a) ≤ i * b := Int.mul_le_mul_of_nonneg_left h1 h.1
  exact ⟨h2, by omega, e, h3, by omega, by rw [Int.add_mul, Int.one_mul]⟩
end Go.Proofs.YtapadkjknnfifaaGreat
