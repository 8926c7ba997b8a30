/-
  Labels, second part.
-/
import Derived.Test.YthjnbidgliejkaaGreatP05
namespace Go.Proofs.YthjnbidgliejkaaGreat
open Go.Flat Go.Plim
set_option linter.unusedVariables false
set_option linter.unusedSimpArgs false
theorem r05_name_val (n : Nat) (s : List UInt8) : r05_name (n + 1) s = some (decide (NameOk s)) := by
  rw [r05_name_eq]
  match s with
  | [] => rfl
  | b :: r =>
    have e2 : at? (b :: r) (0 : Int) = some b := rfl
    rw [e2, obind_some, obind_some]
    simp only [tif_dec]
    rw [if_neg (show ¬ (((b :: r).length : Int) < 1) by simp; omega)]
    by_cases h1 : (64 : Int) < (b :: r).length
    · rw [if_pos h1, decide_eq_false (fun k : NameOk (b :: r) => by have := k.1; omega)]
    rw [if_neg h1, r05_name_l n (b :: r) (by omega) (b :: r) [] loopFuel 0 rfl rfl (by unfold loopFuel; omega)]
    simp only [obind_some]
    have fin : ¬ digitP (b.toNat : Int) → (selim (fun _ : Unit => some true) (fun z4 => some z4) (if ∀ x ∈ b :: r, sgn (x.toNat : Int) then .inl () else .inr false)) = some (decide (NameOk (b :: r))) := by
      intro h2
      by_cases h3 : ∀ x ∈ b :: r, sgn (x.toNat : Int)
      · rw [if_pos h3, decide_eq_true (show NameOk (b :: r) from ⟨by omega, h2, h3⟩)]; rfl
      · rw [if_neg h3, decide_eq_false (fun k : NameOk (b :: r) => h3 k.2.2)]; rfl
    by_cases h4 : (48 : Int) ≤ (b.toNat : Int)
    · rw [if_pos h4]
      by_cases h5 : (b.toNat : Int) ≤ 57
      · rw [if_pos h5, decide_eq_false (fun k : NameOk (b :: r) => k.2.1 ⟨h4, h5⟩)]
      · rw [if_neg h5]; exact fin (fun k => h5 k.2)
    · rw [if_neg h4]; exact fin (fun k => h4 k.1)
/-- labels behind a name -/
def chkL : Option (List UInt8) → List Lab → Prop
  | _, [] => True
  | p, x :: r => NameOk x.1 ∧ x.2.length ≤ 128 ∧ (∀ q, p = some q → Op.bytesLess q x.1 = true) ∧ chkL (some x.1) r
def sumL (l : List Lab) : Int := (l.map fun x => ((x.1.length : Int) + x.2.length)).sum
theorem sumL_nn (l : List Lab) : 0 ≤ sumL l := by
  induction l with
  | nil => simp [sumL]
  | cons x l ih => simp only [sumL, List.map_cons, List.sum_cons] at *; omega
theorem sumL_cons (x : Lab) (l : List Lab) : sumL (x :: l) = x.1.length + x.2.length + sumL l := by simp [sumL]
theorem NameOk.len {s : List UInt8} (h : NameOk s) : s.length ≤ 64 := by
  match s with
  | [] => simp
  | b :: r => exact h.1
/-- labels that are right -/
structure LabOk (l : List Lab) : Prop where
  n0 : 1 ≤ l.length
  n1 : l.length ≤ 16
  c : chkL none l
  t : sumL l ≤ 256
noncomputable instance (l : List Lab) : Decidable (LabOk l) := Classical.propDecidable _
theorem prev_at {l pre rest : List Lab} {x : Lab} {i : Int} (hl : l = pre ++ x :: rest) (hi : i = pre.length) (hL : l.length ≤ 1000000) (h : 0 < i) : ∃ q, pre.getLast? = some q ∧ at? l (IntKind.wrap .i64 (i - 1)) = some q := by
  rcases List.eq_nil_or_concat pre with rfl | ⟨q, y, rfl⟩
  · simp at hi; omega
  rw [List.concat_eq_append] at *
  have hlen := congrArg List.length hl
  simp at hlen hi
  refine ⟨y, by simp, ?_⟩
  rw [w64 (by omega) (by omega)]
  exact at_mid (pre := q) (rest := x :: rest) (by rw [hl]; simp) (by omega)
theorem label_check_l (n : Nat) (l : List Lab) (hL : l.length ≤ 16) : ∀ (rest pre : List Lab) (f : Nat) (left i len : Int), l = pre ++ rest → i = pre.length → len = l.length → rest.length < f → 0 ≤ left → left ≤ 256 →
    (chkL (pre.getLast?.map (·.1)) rest ∧ sumL rest ≤ left → label_Check_l5 (n + 5) f (l, left, l, len, i, ()) = some (.inl ())) ∧
    (¬ (chkL (pre.getLast?.map (·.1)) rest ∧ sumL rest ≤ left) → label_Check_l5 (n + 5) f (l, left, l, len, i, ()) = some (.inr 8)) := by
  intro rest
  induction rest with
  | nil =>
    intro pre f left i len hl hi hn hf h0 h1
    obtain ⟨f, rfl⟩ : ∃ g, f = g + 1 := ⟨f - 1, by simp at hf; omega⟩
    rw [label_Check_l5_eq]
    refine ⟨fun _ => by simp only [tif_dec, if_neg (idxe hl hi hn)], fun k => absurd ⟨trivial, by simpa [sumL] using h0⟩ k⟩
  | cons x rest ih =>
    intro pre f left i len hl hi hn hf h0 h1
    obtain ⟨f, rfl⟩ : ∃ g, f = g + 1 := ⟨f - 1, by simp at hf; omega⟩
    rw [label_Check_l5_eq]
    have hsn := sumL_nn rest
    simp only [tif_dec, tif_not, if_pos (idx hl hi hn), at_mid hl hi, obind_some, idxw hl hi (by omega), label_name_val n x.1]
    rw [sumL_cons]
    by_cases c1 : NameOk x.1
    case neg => rw [if_neg c1]; exact ⟨fun k => absurd k.1.1 c1, fun _ => rfl⟩
    rw [if_pos c1]
    have hn1 := c1.len
    by_cases c2 : (128 : Int) < x.2.length
    · rw [if_pos c2]; exact ⟨fun k => by have := k.1.2.1; omega, fun _ => rfl⟩
    rw [if_neg c2, w64 (x := (x.1.length : Int) + x.2.length) (by omega) (by omega), w64 (x := left - ((x.1.length : Int) + x.2.length)) (by omega) (by omega)]
    by_cases c3 : left - ((x.1.length : Int) + x.2.length) < 0
    · rw [if_pos c3]; exact ⟨fun k => by have := k.2; omega, fun _ => rfl⟩
    rw [if_neg c3]
    have ih' := ih (pre ++ [x]) f (left - ((x.1.length : Int) + x.2.length)) (i + 1) len (idxl hl) (idxs hi) hn (by simp at hf; omega) (by omega) (by omega)
    have el : (pre ++ [x]).getLast?.map (·.1) = some x.1 := by simp
    rw [el] at ih'
    have step : (∀ q, pre.getLast?.map (·.1) = some q → Op.bytesLess q x.1 = true) →
        ((chkL (pre.getLast?.map (·.1)) (x :: rest) ∧ (x.1.length : Int) + x.2.length + sumL rest ≤ left) ↔ (chkL (some x.1) rest ∧ sumL rest ≤ left - ((x.1.length : Int) + x.2.length))) := by
      intro hq
      constructor
      · rintro ⟨k1, k2⟩; exact ⟨k1.2.2.2, by omega⟩
      · rintro ⟨k1, k2⟩; exact ⟨⟨c1, by omega, hq, k1⟩, by omega⟩
    by_cases c4 : 0 < i
    · obtain ⟨q, hq, hat⟩ := prev_at hl hi (by omega) c4
      rw [if_pos c4, hat, obind_some]
      by_cases c5 : Op.bytesLess q.1 x.1 = true
      · rw [c5, tif_true, step (fun z hz => by rw [hq] at hz; simp at hz; rw [← hz]; exact c5)]
        exact ih'
      · have c5' : Op.bytesLess q.1 x.1 = false := by simpa using c5
        rw [c5', tif_false]
        exact ⟨fun k => absurd (k.1.2.2.1 q.1 (by rw [hq]; rfl)) c5, fun _ => rfl⟩
    · have hp : pre = [] := List.length_eq_zero_iff.1 (by omega)
      rw [if_neg c4, step (fun z hz => by rw [hp] at hz; cases hz)]
      exact ih'
theorem label_check (n : Nat) (l : List Lab) : label_Check (n + 6) l = some (if LabOk l then 0 else 8) := by
  rw [label_Check_eq]
  simp only [tif_dec]
  by_cases h1 : (l.length : Int) = 0
  · rw [if_pos h1, if_neg (fun k : LabOk l => by have := k.n0; omega)]
  by_cases h2 : (16 : Int) < l.length
  · rw [if_neg h1, if_pos h2, if_neg (fun k : LabOk l => by have := k.n1; omega)]
  rw [if_neg h1, if_neg h2]
  have hl := label_check_l n l (by omega) l [] loopFuel 256 0 l.length rfl rfl rfl (by unfold loopFuel; omega) (by decide) (by decide)
  by_cases h3 : chkL none l ∧ sumL l ≤ 256
  · rw [hl.1 h3, if_pos (⟨by omega, by omega, h3.1, h3.2⟩ : LabOk l)]; rfl
  · rw [hl.2 h3, if_neg (fun k : LabOk l => h3 ⟨k.c, k.t⟩)]; rfl
theorem r05_check_l (n : Nat) (l : List Lab) (hL : l.length ≤ 16) : ∀ (rest pre : List Lab) (f : Nat) (all i len : Int), l = pre ++ rest → i = pre.length → len = l.length → rest.length < f → 0 ≤ all → all ≤ 192 * pre.length →
    (chkL (pre.getLast?.map (·.1)) rest → r05_Check_l5 (n + 1) f (l, all, l, len, i, ()) = some (.inl (all + sumL rest, ()))) ∧
    (¬ chkL (pre.getLast?.map (·.1)) rest → r05_Check_l5 (n + 1) f (l, all, l, len, i, ()) = some (.inr 8)) := by
  intro rest
  induction rest with
  | nil =>
    intro pre f left i len hl hi hn hf h0 h1
    obtain ⟨f, rfl⟩ : ∃ g, f = g + 1 := ⟨f - 1, by simp at hf; omega⟩
    rw [r05_Check_l5_eq]
    refine ⟨fun _ => by simp only [tif_dec, if_neg (idxe hl hi hn), sumL, List.map_nil, List.sum_nil, Int.add_zero], fun k => absurd trivial k⟩
  | cons x rest ih =>
    intro pre f left i len hl hi hn hf h0 h1
    obtain ⟨f, rfl⟩ : ∃ g, f = g + 1 := ⟨f - 1, by simp at hf; omega⟩
    rw [r05_Check_l5_eq]
    have hsn := sumL_nn rest
    have hpl : pre.length + 1 ≤ l.length := by have := congrArg List.length hl; simp at this; omega
    simp only [tif_dec, tif_not, if_pos (idx hl hi hn), at_mid hl hi, obind_some, idxw hl hi (by omega), r05_name_val n x.1]
    rw [sumL_cons]
    by_cases c1 : NameOk x.1
    case neg => rw [if_neg c1]; exact ⟨fun k => absurd k.1 c1, fun _ => rfl⟩
    rw [if_pos c1]
    have hn1 := c1.len
    by_cases c2 : (128 : Int) < x.2.length
    · rw [if_pos c2]; exact ⟨fun k => by have := k.2.1; omega, fun _ => rfl⟩
    rw [if_neg c2, w64 (x := (x.1.length : Int) + x.2.length) (by omega) (by omega), w64 (x := left + ((x.1.length : Int) + x.2.length)) (by omega) (by omega)]
    have ih' := ih (pre ++ [x]) f (left + ((x.1.length : Int) + x.2.length)) (i + 1) len (idxl hl) (idxs hi) hn (by simp at hf; omega) (by omega) (by simp; omega)
    have el : (pre ++ [x]).getLast?.map (·.1) = some x.1 := by simp
    rw [el] at ih'
    have ea : left + ((x.1.length : Int) + x.2.length + sumL rest) = left + ((x.1.length : Int) + x.2.length) + sumL rest := by omega
    rw [ea]
    have step : (∀ q, pre.getLast?.map (·.1) = some q → Op.bytesLess q x.1 = true) → (chkL (pre.getLast?.map (·.1)) (x :: rest) ↔ chkL (some x.1) rest) := by
      intro hq
      constructor
      · intro k; exact k.2.2.2
      · intro k; exact ⟨c1, by omega, hq, k⟩
    by_cases c4 : 0 < i
    · obtain ⟨q, hq, hat⟩ := prev_at hl hi (by omega) c4
      rw [if_pos c4, hat, obind_some]
      by_cases c5 : Op.bytesLess q.1 x.1 = true
      · rw [c5, tif_true, step (fun z hz => by rw [hq] at hz; simp at hz; rw [← hz]; exact c5)]
        exact ih'
      · have c5' : Op.bytesLess q.1 x.1 = false := by simpa using c5
        rw [c5', tif_false]
        exact ⟨fun k => absurd (k.2.2.1 q.1 (by rw [hq]; rfl)) c5, fun _ => rfl⟩
    · have hp : pre = [] := List.length_eq_zero_iff.1 (by omega)
      rw [if_neg c4, step (fun z hz => by rw [hp] at hz; cases hz)]
      exact ih'
theorem r05_check (n : Nat) (l : List Lab) : r05_Check (n + 2) l = some (if LabOk l then 0 else 8) := by
  rw [r05_Check_eq]
  simp only [tif_dec]
  by_cases h1 : (l.length : Int) < 1
  · rw [if_pos h1, if_neg (fun k : LabOk l => by have := k.n0; omega)]
  by_cases h2 : (16 : Int) < l.length
  · rw [if_neg h1, if_pos h2, if_neg (fun k : LabOk l => by have := k.n1; omega)]
  rw [if_neg h1, if_neg h2]
  have hl := r05_check_l n l (by omega) l [] loopFuel 0 0 l.length rfl rfl rfl (by unfold loopFuel; omega) (by decide) (by simp)
  by_cases h3 : chkL none l
  · rw [hl.1 h3]
    simp only [obind_some, selim_inl, Int.zero_add]
    by_cases h4 : (256 : Int) < sumL l
    · rw [if_pos h4, if_neg (fun k : LabOk l => by have := k.t; omega)]
    · rw [if_neg h4, if_pos (⟨by omega, by omega, h3, by omega⟩ : LabOk l)]
  · rw [hl.2 h3, if_neg (fun k : LabOk l => h3 k.c)]; rfl
/-! ### equal lists -/
theorem labEq (a b : Lab) : ((a.1 == b.1) && (a.2 == b.2)) = decide (a = b) := by
  rw [Bool.eq_iff_iff]; simp [Prod.ext_iff]
end Go.Proofs.YthjnbidgliejkaaGreat
