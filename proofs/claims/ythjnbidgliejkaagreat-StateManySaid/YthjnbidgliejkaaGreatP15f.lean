/-
  Lists that are equal, by the program and by the document; series that are equal. Printed by tools/gen15f.py.
-/
import Derived.Test.YthjnbidgliejkaaGreatP15e
namespace Go.Proofs.YthjnbidgliejkaaGreat
open Go.Flat Go.Plim
set_option linter.unusedVariables false
set_option linter.unusedSimpArgs false
theorem eq_slices_Equal_Label_l (n : Nat) (a b : List Lab) (hL : a.length ≤ 9223372036854775807) : ∀ (ra rb pa pb : List Lab) (f : Nat) (ix len : Int), a = pa ++ ra → b = pb ++ rb → pa.length = pb.length → ra.length = rb.length → ix = pa.length → len = a.length → ra.length < f →
    slices_Equal_Label_l4 n f (a, b, len, ix, ()) = some (if ra = rb then .inl () else .inr false) := by
  intro ra
  induction ra with
  | nil =>
    intro rb pa pb f ix len ha hb hp hr hi hn hf
    obtain ⟨f, rfl⟩ : ∃ g, f = g + 1 := ⟨f - 1, by simp at hf; omega⟩
    have e : rb = [] := List.length_eq_zero_iff.1 (by simpa using hr.symm)
    subst e
    rw [slices_Equal_Label_l4_eq, decide_eq_false (idxe ha hi hn), tif_false, if_pos rfl]
  | cons x ra ih =>
    intro rb pa pb f ix len ha hb hp hr hi hn hf
    obtain ⟨f, rfl⟩ : ∃ g, f = g + 1 := ⟨f - 1, by simp at hf; omega⟩
    cases rb with
    | nil => simp at hr
    | cons y rb =>
      have hlen := congrArg List.length ha
      simp at hlen
      rw [slices_Equal_Label_l4_eq, decide_eq_true (idx ha hi hn), tif_true, at_mid ha hi, at_mid hb (by omega)]
      simp only [obind_some, labEq]
      rw [w64 (x := ix + 1) (by omega) (by omega)]
      by_cases h : x = y
      · subst h
        simp only [decide_true, Bool.not_true, tif_false]
        rw [ih rb (pa ++ [x]) (pb ++ [x]) f (ix + 1) len (idxl ha) (idxl hb) (by simp; omega) (by simpa using hr) (idxs hi) hn (by simp at hf; omega)]
        simp
      · rw [if_neg (by simp [h])]
        simp only [decide_eq_false h, Bool.not_false, tif_true]
theorem eq_slices_Equal_Label (n : Nat) (a b : List Lab) (hL : a.length ≤ 9223372036854775807) : slices_Equal_Label (n + 1) a b = some (decide (a = b)) := by
  rw [slices_Equal_Label_eq]
  by_cases h : a.length = b.length
  · rw [decide_eq_true (show ((a.length : Nat) : Int) = (b.length : Nat) by omega)]
    simp only [Bool.not_true, tif_false]
    rw [eq_slices_Equal_Label_l n a b hL a b [] [] loopFuel 0 _ rfl rfl rfl h rfl rfl (by unfold loopFuel; omega)]
    by_cases h' : a = b
    · rw [if_pos h', decide_eq_true h']; rfl
    · rw [if_neg h', decide_eq_false h']; rfl
  · rw [decide_eq_false (show ¬ ((a.length : Nat) : Int) = (b.length : Nat) by omega), decide_eq_false (fun k : a = b => h (by rw [k]))]
    rfl
theorem eq_slices_Equal_Event_l (n : Nat) (a b : List Ev) (hL : a.length ≤ 9223372036854775807) : ∀ (ra rb pa pb : List Ev) (f : Nat) (ix len : Int), a = pa ++ ra → b = pb ++ rb → pa.length = pb.length → ra.length = rb.length → ix = pa.length → len = a.length → ra.length < f →
    slices_Equal_Event_l4 n f (a, b, len, ix, ()) = some (if ra = rb then .inl () else .inr false) := by
  intro ra
  induction ra with
  | nil =>
    intro rb pa pb f ix len ha hb hp hr hi hn hf
    obtain ⟨f, rfl⟩ : ∃ g, f = g + 1 := ⟨f - 1, by simp at hf; omega⟩
    have e : rb = [] := List.length_eq_zero_iff.1 (by simpa using hr.symm)
    subst e
    rw [slices_Equal_Event_l4_eq, decide_eq_false (idxe ha hi hn), tif_false, if_pos rfl]
  | cons x ra ih =>
    intro rb pa pb f ix len ha hb hp hr hi hn hf
    obtain ⟨f, rfl⟩ : ∃ g, f = g + 1 := ⟨f - 1, by simp at hf; omega⟩
    cases rb with
    | nil => simp at hr
    | cons y rb =>
      have hlen := congrArg List.length ha
      simp at hlen
      rw [slices_Equal_Event_l4_eq, decide_eq_true (idx ha hi hn), tif_true, at_mid ha hi, at_mid hb (by omega)]
      simp only [obind_some, evEq]
      rw [w64 (x := ix + 1) (by omega) (by omega)]
      by_cases h : x = y
      · subst h
        simp only [decide_true, Bool.not_true, tif_false]
        rw [ih rb (pa ++ [x]) (pb ++ [x]) f (ix + 1) len (idxl ha) (idxl hb) (by simp; omega) (by simpa using hr) (idxs hi) hn (by simp at hf; omega)]
        simp
      · rw [if_neg (by simp [h])]
        simp only [decide_eq_false h, Bool.not_false, tif_true]
theorem eq_slices_Equal_Event (n : Nat) (a b : List Ev) (hL : a.length ≤ 9223372036854775807) : slices_Equal_Event (n + 1) a b = some (decide (a = b)) := by
  rw [slices_Equal_Event_eq]
  by_cases h : a.length = b.length
  · rw [decide_eq_true (show ((a.length : Nat) : Int) = (b.length : Nat) by omega)]
    simp only [Bool.not_true, tif_false]
    rw [eq_slices_Equal_Event_l n a b hL a b [] [] loopFuel 0 _ rfl rfl rfl h rfl rfl (by unfold loopFuel; omega)]
    by_cases h' : a = b
    · rw [if_pos h', decide_eq_true h']; rfl
    · rw [if_neg h', decide_eq_false h']; rfl
  · rw [decide_eq_false (show ¬ ((a.length : Nat) : Int) = (b.length : Nat) by omega), decide_eq_false (fun k : a = b => h (by rw [k]))]
    rfl
theorem eq_slices_Equal_Slot_l (n : Nat) (a b : List Slo) (hL : a.length ≤ 9223372036854775807) : ∀ (ra rb pa pb : List Slo) (f : Nat) (ix len : Int), a = pa ++ ra → b = pb ++ rb → pa.length = pb.length → ra.length = rb.length → ix = pa.length → len = a.length → ra.length < f →
    slices_Equal_Slot_l4 n f (a, b, len, ix, ()) = some (if ra = rb then .inl () else .inr false) := by
  intro ra
  induction ra with
  | nil =>
    intro rb pa pb f ix len ha hb hp hr hi hn hf
    obtain ⟨f, rfl⟩ : ∃ g, f = g + 1 := ⟨f - 1, by simp at hf; omega⟩
    have e : rb = [] := List.length_eq_zero_iff.1 (by simpa using hr.symm)
    subst e
    rw [slices_Equal_Slot_l4_eq, decide_eq_false (idxe ha hi hn), tif_false, if_pos rfl]
  | cons x ra ih =>
    intro rb pa pb f ix len ha hb hp hr hi hn hf
    obtain ⟨f, rfl⟩ : ∃ g, f = g + 1 := ⟨f - 1, by simp at hf; omega⟩
    cases rb with
    | nil => simp at hr
    | cons y rb =>
      have hlen := congrArg List.length ha
      simp at hlen
      rw [slices_Equal_Slot_l4_eq, decide_eq_true (idx ha hi hn), tif_true, at_mid ha hi, at_mid hb (by omega)]
      simp only [obind_some, sloEq]
      rw [w64 (x := ix + 1) (by omega) (by omega)]
      by_cases h : x = y
      · subst h
        simp only [decide_true, Bool.not_true, tif_false]
        rw [ih rb (pa ++ [x]) (pb ++ [x]) f (ix + 1) len (idxl ha) (idxl hb) (by simp; omega) (by simpa using hr) (idxs hi) hn (by simp at hf; omega)]
        simp
      · rw [if_neg (by simp [h])]
        simp only [decide_eq_false h, Bool.not_false, tif_true]
theorem eq_slices_Equal_Slot (n : Nat) (a b : List Slo) (hL : a.length ≤ 9223372036854775807) : slices_Equal_Slot (n + 1) a b = some (decide (a = b)) := by
  rw [slices_Equal_Slot_eq]
  by_cases h : a.length = b.length
  · rw [decide_eq_true (show ((a.length : Nat) : Int) = (b.length : Nat) by omega)]
    simp only [Bool.not_true, tif_false]
    rw [eq_slices_Equal_Slot_l n a b hL a b [] [] loopFuel 0 _ rfl rfl rfl h rfl rfl (by unfold loopFuel; omega)]
    by_cases h' : a = b
    · rw [if_pos h', decide_eq_true h']; rfl
    · rw [if_neg h', decide_eq_false h']; rfl
  · rw [decide_eq_false (show ¬ ((a.length : Nat) : Int) = (b.length : Nat) by omega), decide_eq_false (fun k : a = b => h (by rw [k]))]
    rfl
theorem eq_r05_Same_l (n : Nat) (a b : List Lab) (hL : a.length ≤ 9223372036854775807) : ∀ (ra rb pa pb : List Lab) (f : Nat) (ix len : Int), a = pa ++ ra → b = pb ++ rb → pa.length = pb.length → ra.length = rb.length → ix = pa.length → len = a.length → ra.length < f →
    r05_Same_l4 n f (a, b, len, ix, ()) = some (if ra = rb then .inl () else .inr false) := by
  intro ra
  induction ra with
  | nil =>
    intro rb pa pb f ix len ha hb hp hr hi hn hf
    obtain ⟨f, rfl⟩ : ∃ g, f = g + 1 := ⟨f - 1, by simp at hf; omega⟩
    have e : rb = [] := List.length_eq_zero_iff.1 (by simpa using hr.symm)
    subst e
    rw [r05_Same_l4_eq, decide_eq_false (idxe ha hi hn), tif_false, if_pos rfl]
  | cons x ra ih =>
    intro rb pa pb f ix len ha hb hp hr hi hn hf
    obtain ⟨f, rfl⟩ : ∃ g, f = g + 1 := ⟨f - 1, by simp at hf; omega⟩
    cases rb with
    | nil => simp at hr
    | cons y rb =>
      have hlen := congrArg List.length ha
      simp at hlen
      rw [r05_Same_l4_eq, decide_eq_true (idx ha hi hn), tif_true, at_mid ha hi, at_mid hb (by omega)]
      simp only [obind_some, labEq]
      rw [w64 (x := ix + 1) (by omega) (by omega)]
      by_cases h : x = y
      · subst h
        simp only [decide_true, Bool.not_true, tif_false]
        rw [ih rb (pa ++ [x]) (pb ++ [x]) f (ix + 1) len (idxl ha) (idxl hb) (by simp; omega) (by simpa using hr) (idxs hi) hn (by simp at hf; omega)]
        simp
      · rw [if_neg (by simp [h])]
        simp only [decide_eq_false h, Bool.not_false, tif_true]
theorem eq_r05_Same (n : Nat) (a b : List Lab) (hL : a.length ≤ 9223372036854775807) : r05_Same (n + 1) a b = some (decide (a = b)) := by
  rw [r05_Same_eq]
  by_cases h : a.length = b.length
  · rw [decide_eq_true (show ((a.length : Nat) : Int) = (b.length : Nat) by omega)]
    simp only [Bool.not_true, tif_false]
    rw [eq_r05_Same_l n a b hL a b [] [] loopFuel 0 _ rfl rfl rfl h rfl rfl (by unfold loopFuel; omega)]
    by_cases h' : a = b
    · rw [if_pos h', decide_eq_true h']; rfl
    · rw [if_neg h', decide_eq_false h']; rfl
  · rw [decide_eq_false (show ¬ ((a.length : Nat) : Int) = (b.length : Nat) by omega), decide_eq_false (fun k : a = b => h (by rw [k]))]
    rfl
theorem eq_r12_SameList_l (n : Nat) (a b : List Ev) (hL : a.length ≤ 9223372036854775807) : ∀ (ra rb pa pb : List Ev) (f : Nat) (ix len : Int), a = pa ++ ra → b = pb ++ rb → pa.length = pb.length → ra.length = rb.length → ix = pa.length → len = a.length → ra.length < f →
    r12_SameList_l4 n f (a, b, len, ix, ()) = some (if ra = rb then .inl () else .inr false) := by
  intro ra
  induction ra with
  | nil =>
    intro rb pa pb f ix len ha hb hp hr hi hn hf
    obtain ⟨f, rfl⟩ : ∃ g, f = g + 1 := ⟨f - 1, by simp at hf; omega⟩
    have e : rb = [] := List.length_eq_zero_iff.1 (by simpa using hr.symm)
    subst e
    rw [r12_SameList_l4_eq, decide_eq_false (idxe ha hi hn), tif_false, if_pos rfl]
  | cons x ra ih =>
    intro rb pa pb f ix len ha hb hp hr hi hn hf
    obtain ⟨f, rfl⟩ : ∃ g, f = g + 1 := ⟨f - 1, by simp at hf; omega⟩
    cases rb with
    | nil => simp at hr
    | cons y rb =>
      have hlen := congrArg List.length ha
      simp at hlen
      rw [r12_SameList_l4_eq, decide_eq_true (idx ha hi hn), tif_true, at_mid ha hi, at_mid hb (by omega)]
      simp only [obind_some, evEq]
      rw [w64 (x := ix + 1) (by omega) (by omega)]
      by_cases h : x = y
      · subst h
        simp only [decide_true, Bool.not_true, tif_false]
        rw [ih rb (pa ++ [x]) (pb ++ [x]) f (ix + 1) len (idxl ha) (idxl hb) (by simp; omega) (by simpa using hr) (idxs hi) hn (by simp at hf; omega)]
        simp
      · rw [if_neg (by simp [h])]
        simp only [decide_eq_false h, Bool.not_false, tif_true]
theorem eq_r12_SameList (n : Nat) (a b : List Ev) (hL : a.length ≤ 9223372036854775807) : r12_SameList (n + 1) a b = some (decide (a = b)) := by
  rw [r12_SameList_eq]
  by_cases h : a.length = b.length
  · rw [decide_eq_true (show ((a.length : Nat) : Int) = (b.length : Nat) by omega)]
    simp only [Bool.not_true, tif_false]
    rw [eq_r12_SameList_l n a b hL a b [] [] loopFuel 0 _ rfl rfl rfl h rfl rfl (by unfold loopFuel; omega)]
    by_cases h' : a = b
    · rw [if_pos h', decide_eq_true h']; rfl
    · rw [if_neg h', decide_eq_false h']; rfl
  · rw [decide_eq_false (show ¬ ((a.length : Nat) : Int) = (b.length : Nat) by omega), decide_eq_false (fun k : a = b => h (by rw [k]))]
    rfl
theorem eq_r13_Same_l (n : Nat) (a b : List Slo) (hL : a.length ≤ 9223372036854775807) : ∀ (ra rb pa pb : List Slo) (f : Nat) (ix len : Int), a = pa ++ ra → b = pb ++ rb → pa.length = pb.length → ra.length = rb.length → ix = pa.length → len = a.length → ra.length < f →
    r13_Same_l4 n f (a, b, len, ix, ()) = some (if ra = rb then .inl () else .inr false) := by
  intro ra
  induction ra with
  | nil =>
    intro rb pa pb f ix len ha hb hp hr hi hn hf
    obtain ⟨f, rfl⟩ : ∃ g, f = g + 1 := ⟨f - 1, by simp at hf; omega⟩
    have e : rb = [] := List.length_eq_zero_iff.1 (by simpa using hr.symm)
    subst e
    rw [r13_Same_l4_eq, decide_eq_false (idxe ha hi hn), tif_false, if_pos rfl]
  | cons x ra ih =>
    intro rb pa pb f ix len ha hb hp hr hi hn hf
    obtain ⟨f, rfl⟩ : ∃ g, f = g + 1 := ⟨f - 1, by simp at hf; omega⟩
    cases rb with
    | nil => simp at hr
    | cons y rb =>
      have hlen := congrArg List.length ha
      simp at hlen
      rw [r13_Same_l4_eq, decide_eq_true (idx ha hi hn), tif_true, at_mid ha hi, at_mid hb (by omega)]
      simp only [obind_some, sloEq]
      rw [w64 (x := ix + 1) (by omega) (by omega)]
      by_cases h : x = y
      · subst h
        simp only [decide_true, Bool.not_true, tif_false]
        rw [ih rb (pa ++ [x]) (pb ++ [x]) f (ix + 1) len (idxl ha) (idxl hb) (by simp; omega) (by simpa using hr) (idxs hi) hn (by simp at hf; omega)]
        simp
      · rw [if_neg (by simp [h])]
        simp only [decide_eq_false h, Bool.not_false, tif_true]
theorem eq_r13_Same (n : Nat) (a b : List Slo) (hL : a.length ≤ 9223372036854775807) : r13_Same (n + 1) a b = some (decide (a = b)) := by
  rw [r13_Same_eq]
  by_cases h : a.length = b.length
  · rw [decide_eq_true (show ((a.length : Nat) : Int) = (b.length : Nat) by omega)]
    simp only [Bool.not_true, tif_false]
    rw [eq_r13_Same_l n a b hL a b [] [] loopFuel 0 _ rfl rfl rfl h rfl rfl (by unfold loopFuel; omega)]
    by_cases h' : a = b
    · rw [if_pos h', decide_eq_true h']; rfl
    · rw [if_neg h', decide_eq_false h']; rfl
  · rw [decide_eq_false (show ¬ ((a.length : Nat) : Int) = (b.length : Nat) by omega), decide_eq_false (fun k : a = b => h (by rw [k]))]
    rfl
noncomputable instance decSer (a b : Ser) : Decidable (a = b) := Classical.propDecidable _
structure SerM (s : Ser) : Prop where
  l : s.1.length ≤ 9223372036854775807
  r : s.2.2.1.2.2.length ≤ 9223372036854775807
  a : s.2.2.2.1.1.length ≤ 9223372036854775807
  b : s.2.2.2.1.2.1.length ≤ 9223372036854775807
  d : s.2.2.2.1.2.2.length ≤ 9223372036854775807
theorem series_same (n : Nat) (a b : Ser) (h : SerM a) : series_Same (n + 3) a b = some (decide (a = b)) := by
  rw [series_Same_eq, label_Same_eq, raw_Same_eq, eq_slices_Equal_Label n _ _ h.l, eq_slices_Equal_Event n _ _ h.r, eq_slices_Equal_Slot (n + 1) _ _ h.a, eq_slices_Equal_Slot (n + 1) _ _ h.b, eq_slices_Equal_Slot (n + 1) _ _ h.d]
  obtain ⟨a1, a2, ⟨r1, r2, r3⟩, ⟨t1, t2, t3⟩, a5⟩ := a
  obtain ⟨b1, b2, ⟨q1, q2, q3⟩, ⟨u1, u2, u3⟩, b5⟩ := b
  simp only [obind_some, sloEq, tif_dec]
  by_cases h1 : a1 = b1
  case neg => simp [h1]
  by_cases h2 : a2 = b2
  case neg => simp [h1, h2]
  by_cases h3 : r1 = q1
  case neg => simp [h1, h2, h3]
  by_cases h4 : r2 = q2
  case neg => simp [h1, h2, h3, h4]
  by_cases h5 : r3 = q3
  case neg => simp [h1, h2, h3, h4, h5]
  by_cases h6 : t1 = u1
  case neg => simp [h1, h2, h3, h4, h5, h6]
  by_cases h7 : t2 = u2
  case neg => simp [h1, h2, h3, h4, h5, h6, h7]
  by_cases h8 : t3 = u3
  case neg => simp [h1, h2, h3, h4, h5, h6, h7, h8]
  by_cases h9 : a5 = b5
  case neg => simp [h1, h2, h3, h4, h5, h6, h7, h8, h9]
  simp [h1, h2, h3, h4, h5, h6, h7, h8, h9]
theorem r15_same (n : Nat) (a b : Ser) (h : SerM a) : r15_Same (n + 3) a b = some (decide (a = b)) := by
  rw [r15_Same_eq, r12_Same_eq, r14_Same_eq, eq_r05_Same (n + 1) _ _ h.l, eq_r12_SameList n _ _ h.r, eq_r13_Same n _ _ h.a, eq_r13_Same n _ _ h.b, eq_r13_Same n _ _ h.d]
  obtain ⟨a1, a2, ⟨r1, r2, r3⟩, ⟨t1, t2, t3⟩, a5⟩ := a
  obtain ⟨b1, b2, ⟨q1, q2, q3⟩, ⟨u1, u2, u3⟩, b5⟩ := b
  simp only [obind_some, sloEq, tif_dec, tif_not]
  by_cases h1 : a1 = b1
  case neg => simp [h1]
  by_cases h2 : a2 = b2
  case neg => simp [h1, h2]
  by_cases h3 : r1 = q1
  case neg => simp [h1, h2, h3]
  by_cases h4 : r2 = q2
  case neg => simp [h1, h2, h3, h4]
  by_cases h5 : r3 = q3
  case neg => simp [h1, h2, h3, h4, h5]
  by_cases h6 : t1 = u1
  case neg => simp [h1, h2, h3, h4, h5, h6]
  by_cases h7 : t2 = u2
  case neg => simp [h1, h2, h3, h4, h5, h6, h7]
  by_cases h8 : t3 = u3
  case neg => simp [h1, h2, h3, h4, h5, h6, h7, h8]
  by_cases h9 : a5 = b5
  case neg => simp [h1, h2, h3, h4, h5, h6, h7, h8, h9]
  simp [h1, h2, h3, h4, h5, h6, h7, h8, h9]
end Go.Proofs.YthjnbidgliejkaaGreat
