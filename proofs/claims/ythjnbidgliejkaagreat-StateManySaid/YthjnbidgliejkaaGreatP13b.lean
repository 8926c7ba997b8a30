/-
  A tier's slots, second part: those that are not zero, in order; got, put, and merged.
-/
import Derived.Test.YthjnbidgliejkaaGreatP13
namespace Go.Proofs.YthjnbidgliejkaaGreat
open Go.Flat Go.Plim
set_option linter.unusedVariables false
set_option linter.unusedSimpArgs false
theorem clone_slot (n : Nat) (l : List Slo) (h : l.length ≤ 1000000) : slices_Clone_Slot (n + 1) l = some l := by
  rw [slices_Clone_Slot_eq]
  simp only [tif_dec, if_pos (show (0 + l.length) * 120 ≤ 140737488355328 by omega), List.nil_append]
  by_cases h0 : l.length = 0
  · obtain rfl := List.length_eq_zero_iff.1 h0
    simp
  · rw [if_neg h0]
section
variable {del : TSlot × Unit → Option Bool} {p : Slo → Bool} (hd : ∀ x, del (x, ()) = some (p x))
include hd
theorem index_l (n : Nat) (l : List Slo) (hL : l.length ≤ 1000000) : ∀ (rest pre : List Slo) (f : Nat) (i len : Int), l = pre ++ rest → i = pre.length → len = l.length → rest.length < f →
    (slices_IndexFunc_Slot_l2 n f (l, del, len, i, ()) = some (.inl ()) ∧ ∀ x ∈ rest, p x = false) ∨
    (∃ A x B, rest = A ++ x :: B ∧ (∀ y ∈ A, p y = false) ∧ p x = true ∧ slices_IndexFunc_Slot_l2 n f (l, del, len, i, ()) = some (.inr (i + A.length))) := by
  intro rest
  induction rest with
  | nil =>
    intro pre f i len hl hi hn hf
    obtain ⟨f, rfl⟩ : ∃ g, f = g + 1 := ⟨f - 1, by simp at hf; omega⟩
    rw [slices_IndexFunc_Slot_l2_eq]
    exact .inl ⟨by simp only [tif_dec, if_neg (idxe hl hi hn)], by simp⟩
  | cons x rest ih =>
    intro pre f i len hl hi hn hf
    obtain ⟨f, rfl⟩ : ∃ g, f = g + 1 := ⟨f - 1, by simp at hf; omega⟩
    rw [slices_IndexFunc_Slot_l2_eq]
    simp only [tif_dec, if_pos (idx hl hi hn), at_mid hl hi, obind_some, hd, idxw hl hi (by omega)]
    cases hp : p x with
    | true => exact .inr ⟨[], x, rest, rfl, by simp, hp, by simp⟩
    | false =>
      rw [tif_false]
      rcases ih (pre ++ [x]) f (i + 1) len (idxl hl) (idxs hi) hn (by simp at hf; omega) with ⟨h1, h2⟩ | ⟨A, y, B, h1, h2, h3, h4⟩
      · exact .inl ⟨h1, by intro z hz; rcases List.mem_cons.1 hz with rfl | hz; exact hp; exact h2 z hz⟩
      · refine .inr ⟨x :: A, y, B, by rw [h1]; rfl, ?_, h3, by rw [h4, List.length_cons, show i + 1 + (A.length : Int) = i + ((A.length + 1 : Nat) : Int) by omega]⟩
        intro z hz
        rcases List.mem_cons.1 hz with rfl | hz
        · exact hp
        · exact h2 z hz
theorem delete_l (n : Nat) (l0 : List Slo) (hL : l0.length ≤ 1000000) : ∀ (rest F G : List Slo) (f : Nat) (i j : Int), (F ++ (G ++ rest)).length = l0.length → G ≠ [] → i = F.length → j = F.length + G.length → rest.length < f →
    ∃ G', slices_DeleteFunc_Slot_l5 n f (F ++ (G ++ rest), del, i, j, ()) = some (.inl (F ++ rest.filter (fun x => !p x) ++ G', (F ++ rest.filter (fun x => !p x)).length, ())) ∧ (F ++ rest.filter (fun x => !p x) ++ G').length = l0.length := by
  intro rest
  induction rest with
  | nil =>
    intro F G f i j hl hg hi hj hf
    obtain ⟨f, rfl⟩ : ∃ g, f = g + 1 := ⟨f - 1, by simp at hf; omega⟩
    rw [slices_DeleteFunc_Slot_l5_eq]
    have : ¬ (j < ((F ++ (G ++ [])).length : Int)) := by simp; omega
    simp only [tif_dec, if_neg this]
    exact ⟨G, by simp [hi], by simpa using hl⟩
  | cons x rest ih =>
    intro F G f i j hl hg hi hj hf
    obtain ⟨f, rfl⟩ : ∃ g, f = g + 1 := ⟨f - 1, by simp at hf; omega⟩
    rw [slices_DeleteFunc_Slot_l5_eq]
    simp only [List.length_append, List.length_cons] at hl
    have hlt : j < ((F ++ (G ++ x :: rest)).length : Int) := by simp; omega
    have hat : at? (F ++ (G ++ x :: rest)) j = some x := at_mid (pre := F ++ G) (rest := rest) (by simp) (by simp; omega)
    have hget : (F ++ (G ++ x :: rest))[j.toNat]? = some x := by
      rw [show j.toNat = F.length + G.length by omega, List.getElem?_append_right (by omega), List.getElem?_append_right (by omega)]
      simp
    simp only [tif_dec, if_pos hlt, hat, hget, obind_some, hd]
    have wj : IntKind.wrap .i64 (j + 1) = j + 1 := by rw [w64 (by omega) (by omega)]
    have wi : IntKind.wrap .i64 (i + 1) = i + 1 := by rw [w64 (by omega) (by omega)]
    rw [wj, wi]
    match G, hg with
    | g :: G, _ =>
    cases hp : p x with
    | false =>
      have hat' : at? (F ++ (g :: G ++ x :: rest)) i = some g := at_mid (pre := F) (rest := G ++ x :: rest) (by simp) hi
      have hget' : (F ++ (g :: G ++ x :: rest))[i.toNat]? = some g := by
        rw [show i.toNat = F.length by omega]; simp
      have hset : (F ++ (g :: G ++ x :: rest)).set i.toNat x = (F ++ [x]) ++ ((G ++ [x]) ++ rest) := by
        rw [show i.toNat = F.length by omega, List.set_append_right _ _ (by omega)]
        simp
      simp only [Bool.not_false, tif_true, hat', hget', obind_some, hset]
      obtain ⟨G', h1, h2⟩ := ih (F ++ [x]) (G ++ [x]) f (i + 1) (j + 1) (by simp at hl ⊢; omega) (by simp) (by simp; omega) (by simp at hj ⊢; omega) (by simp at hf; omega)
      refine ⟨G', ?_, ?_⟩
      · rw [h1]; simp [List.filter_cons, hp]
      · rw [← h2]; simp [List.filter_cons, hp]
    | true =>
      simp only [Bool.not_true, tif_false]
      obtain ⟨G', h1, h2⟩ := ih F (g :: G ++ [x]) f i (j + 1) (by simp at hl ⊢; omega) (by simp) hi (by simp at hj ⊢; omega) (by simp at hf; omega)
      simp only [List.append_assoc, List.singleton_append] at h1
      refine ⟨G', ?_, ?_⟩
      · rw [h1]; simp [List.filter_cons, hp]
      · rw [← h2]; simp [List.filter_cons, hp]
theorem delete_slot (n : Nat) (l : List Slo) (hL : l.length ≤ 1000000) : slices_DeleteFunc_Slot (n + 2) l del = some (l.filter fun x => !p x) := by
  rw [slices_DeleteFunc_Slot_eq, slices_IndexFunc_Slot_eq]
  rcases index_l hd n l hL l [] loopFuel 0 l.length rfl rfl rfl (by unfold loopFuel; omega) with ⟨h1, h2⟩ | ⟨A, x, B, h1, h2, h3, h4⟩
  · rw [h1]
    simp only [obind_some, selim_inl, tif_dec, if_pos trivial]
    exact congrArg some (List.filter_eq_self.2 fun y hy => by simp [h2 y hy]).symm
  · rw [h4]
    have hl : l.length = A.length + (B.length + 1) := by rw [h1]; simp
    simp only [obind_some, selim_inr, tif_dec, Int.zero_add]
    rw [if_neg (by omega), w64 (x := (A.length : Int) + 1) (by omega) (by omega)]
    obtain ⟨G', g1, g2⟩ := delete_l hd (n + 1) l hL B A [x] loopFuel (A.length : Int) (A.length + 1) (by rw [h1]; simp) (by simp) rfl (by simp) (by unfold loopFuel; omega)
    rw [show A ++ ([x] ++ B) = l by rw [h1]; simp] at g1
    rw [g1]
    have hF : A ++ B.filter (fun x => !p x) = l.filter fun x => !p x := by
      rw [h1, List.filter_append, List.filter_cons]
      have : A.filter (fun x => !p x) = A := List.filter_eq_self.2 fun y hy => by simp [h2 y hy]
      simp [h3, this]
    rw [hF] at g2 ⊢
    generalize (l.filter fun x => !p x) = F at *
    simp only [obind_some, selim_inl, tif_and, tif_dec, Int.toNat_natCast]
    have hle : F.length ≤ (F ++ G').length := by simp
    have k1 : putRow (F ++ G') F.length (List.replicate ((F ++ G').length - F.length) s0) = F ++ List.replicate ((F ++ G').length - F.length) s0 := by
      unfold putRow
      rw [List.drop_of_length_le (by simp)]
      simp
    have k2 := k1
    simp only [s0, z0, e0] at k2
    rw [k2, if_pos (by omega), if_pos hle, if_pos (by omega), if_pos (by omega), if_pos (by simp; omega)]
    simp
end
/-! ### in order -/
theorem compare64 (n : Nat) (x y : Int) : cmp_Compare_int64 (n + 2) x y = some (if x < y then -1 else if y < x then 1 else 0) := by
  rw [cmp_Compare_int64_eq, cmp_isNaN_int64_eq, cmp_isNaN_int64_eq]
  simp only [decide_true, Bool.not_true, obind_some, tif_false, tif_dec]
  by_cases h1 : x < y
  · rw [if_pos h1, if_pos h1]
  · rw [if_neg h1, if_neg h1]
    by_cases h2 : y < x
    · rw [if_pos h2, if_pos h2]
    · rw [if_neg h2, if_neg h2]
theorem cmp_slots (n : Nat) : Cmp (fun y3 => tier_All_1 (n + 3) y3.1 y3.2.1) (fun s => s.1) := by
  intro x y
  refine ⟨if x.1 < y.1 then -1 else if y.1 < x.1 then 1 else 0, ?_, ?_⟩
  · show tier_All_1 (n + 3) x y = _
    rw [tier_All_1_eq, compare64]; rfl
  · by_cases h1 : x.1 < y.1
    · simp [h1]
    · by_cases h2 : y.1 < x.1
      · simp [h1, h2]
      · simp [h1, h2]
theorem pairwise_of_srt {l : List Slo} (h : Srt (fun s => s.1) l 0 l.length) : l.Pairwise fun a b => a.1 ≤ b.1 := by
  rw [List.pairwise_iff_getElem]
  intro i j hi hj hij
  exact h i j _ _ (by omega) hij hj (List.getElem?_eq_getElem hi) (List.getElem?_eq_getElem hj)
theorem tier_all (n : Nat) {l : List Slo} {w : Int} (h : TierOk l w) : tier_All (n + 17) l = some (tall l) := by
  have hl := h.l1
  rw [tier_All_eq, clone_slot _ l (by omega)]
  simp only [obind_some]
  rw [delete_slot (del := fun y1 => tier_none (n + 16) y1.1) (p := fun s => decide (s = s0)) (fun x => tier_none_val (n + 15) x) (n + 14) l (by omega)]
  simp only [obind_some]
  have e : (l.filter fun x => !decide (x = s0)) = some13 l := by unfold some13; congr 1; funext x; simp
  rw [e]
  have hle : (some13 l).length ≤ l.length := List.length_filter_le _ _
  obtain ⟨d', r1, r2, r3⟩ := sortStable_ok (cmp_slots (n + 13)) n 12 (some13 l) (by omega) (by omega)
  rw [r1]
  rw [← r2.length_eq] at r3
  rw [tall_eq h r2 (pairwise_of_srt r3)]
  rfl
theorem r13_all_l7 (n : Nat) (out : List Slo) (s : Slo) (s8 : List Slo) (s9 s10 : Int) (hL : out.length ≤ 1000000) (hs : out.Pairwise fun a b => a.1 ≤ b.1) : ∀ (k f : Nat), k ≤ out.length → k < f → (∀ x ∈ out.drop k, s.1 < x.1) →
    ∃ k' : Nat, r13_All_l7 n f (out, s, (k : Int), s8, s9, s10, ()) = some (.inl (out, s, (k' : Int), s8, s9, s10, ())) ∧ k' ≤ out.length ∧ (∀ x ∈ out.take k', x.1 ≤ s.1) ∧ (∀ x ∈ out.drop k', s.1 < x.1) := by
  intro k
  induction k with
  | zero =>
    intro f hk hf h
    obtain ⟨f, rfl⟩ : ∃ g, f = g + 1 := ⟨f - 1, by omega⟩
    rw [r13_All_l7_eq]
    simp only [tif_dec, if_neg (show ¬ ((0 : Int) < ((0 : Nat) : Int)) by omega)]
    exact ⟨0, rfl, by omega, by simp, h⟩
  | succ k ih =>
    intro f hk hf h
    obtain ⟨f, rfl⟩ : ∃ g, f = g + 1 := ⟨f - 1, by omega⟩
    rw [r13_All_l7_eq]
    have lk : k < out.length := by omega
    rw [wn (x := ((k + 1 : Nat) : Int) - 1) (k := k) (by omega) (by omega)]
    simp only [tif_dec, if_pos (show ((0 : Int) < ((k + 1 : Nat) : Int)) by omega), at_some lk, Int.toNat_natCast, List.getElem?_eq_getElem lk, obind_some]
    by_cases hc : s.1 < out[k].1
    · rw [if_pos hc]
      refine ih f (by omega) (by omega) (fun x hx => ?_)
      rw [List.drop_eq_getElem_cons lk] at hx
      rcases List.mem_cons.1 hx with rfl | hx
      · exact hc
      · exact h x hx
    · rw [if_neg hc]
      refine ⟨k + 1, rfl, hk, fun x hx => ?_, h⟩
      obtain ⟨j, hj, rfl⟩ := List.mem_iff_getElem.1 hx
      have hj' : j < k + 1 := by simp at hj; omega
      rw [List.getElem_take]
      rcases Nat.lt_or_eq_of_le (Nat.le_of_lt_succ hj') with hjk | rfl
      · have := List.pairwise_iff_getElem.1 hs j k (by omega) lk hjk
        omega
      · omega
theorem insert_sorted {out : List Slo} {s : Slo} {k : Nat} (hs : out.Pairwise fun a b => a.1 ≤ b.1) (h1 : ∀ x ∈ out.take k, x.1 ≤ s.1) (h2 : ∀ x ∈ out.drop k, s.1 < x.1) :
    (out.take k ++ s :: out.drop k).Pairwise fun a b => a.1 ≤ b.1 := by
  rw [List.pairwise_append]
  refine ⟨hs.sublist (List.take_sublist _ _), List.pairwise_cons.2 ⟨fun x hx => Int.le_of_lt (h2 x hx), hs.sublist (List.drop_sublist _ _)⟩, fun a ha b hb => ?_⟩
  rcases List.mem_cons.1 hb with rfl | hb
  · exact h1 a ha
  · have := h1 a ha; have := h2 b hb; omega
theorem r13_all_l3 (n : Nat) (l : List Slo) (hL : l.length ≤ 1000000) : ∀ (rest pre : List Slo) (f : Nat) (out : List Slo) (i len : Int), l = pre ++ rest → i = pre.length → len = l.length → rest.length < f → out.Pairwise (fun a b => a.1 ≤ b.1) → out.Perm (some13 pre) →
    ∃ out', r13_All_l3 n f (out, l, len, i, ()) = some (.inl (out', ())) ∧ out'.Pairwise (fun a b => a.1 ≤ b.1) ∧ out'.Perm (some13 l) := by
  intro rest
  induction rest with
  | nil =>
    intro pre f out i len hl hi hn hf hs hp
    obtain ⟨f, rfl⟩ : ∃ g, f = g + 1 := ⟨f - 1, by simp at hf; omega⟩
    rw [r13_All_l3_eq]
    rw [List.append_nil] at hl
    exact ⟨out, by simp only [tif_dec, if_neg (idxe (pre := pre) (by rw [hl, List.append_nil]) hi hn)], hs, by rw [hl]; exact hp⟩
  | cons x rest ih =>
    intro pre f out i len hl hi hn hf hs hp
    obtain ⟨f, rfl⟩ : ∃ g, f = g + 1 := ⟨f - 1, by simp at hf; omega⟩
    rw [r13_All_l3_eq]
    have hlen : out.length ≤ l.length := by
      rw [hp.length_eq, hl]
      have : (some13 pre).length ≤ pre.length := List.length_filter_le _ _
      simp; omega
    simp only [tif_dec, if_pos (idx hl hi hn), at_mid hl hi, obind_some, sloEq0]
    by_cases h0 : x = s0
    · rw [if_pos h0, idxw hl hi (by omega)]
      exact ih (pre ++ [x]) f out (i + 1) len (idxl hl) (idxs hi) hn (by simp at hf; omega) hs (by simpa [some13, List.filter_append, h0] using hp)
    · rw [if_neg h0]
      obtain ⟨k, r1, r2, r3, r4⟩ := r13_all_l7 n out x l len i (by omega) hs out.length loopFuel (Nat.le_refl _) (by unfold loopFuel; omega) (by simp)
      rw [r1]
      have t1 : (List.take ((k : Int).toNat - 0) (List.drop 0 out)) = out.take k := by simp
      have t2 : (List.take (out.length - (k : Int).toNat) (List.drop (k : Int).toNat out)) = out.drop k := by
        rw [Int.toNat_natCast, List.take_of_length_le (by simp)]
      simp only [obind_some, selim_inl, tif_and, tif_dec]
      rw [t1, t2, List.nil_append]
      have l1 : (out.take k).length = k := by simp; omega
      rw [if_pos (by omega), if_pos (by omega), if_pos (by rw [l1]; omega), if_pos (by rw [l1]; omega), if_pos (by omega), if_pos (by simp; omega), if_pos (by simp; omega), idxw hl hi (by omega)]
      have e : out.take k ++ [x] ++ out.drop k = out.take k ++ x :: out.drop k := by simp
      rw [e]
      refine ih (pre ++ [x]) f _ (i + 1) len (idxl hl) (idxs hi) hn (by simp at hf; omega) (insert_sorted hs r3 r4) ?_
      have e2 : some13 (pre ++ [x]) = some13 pre ++ [x] := by simp [some13, List.filter_append, h0]
      rw [e2]
      refine (List.perm_middle).trans ?_
      rw [List.take_append_drop]
      exact ((List.Perm.cons x hp)).trans (List.perm_append_comm (l₁ := [x]))
theorem r13_all (n : Nat) {l : List Slo} {w : Int} (h : TierOk l w) : r13_All (n + 1) l = some (tall l) := by
  have hl := h.l1
  rw [r13_All_eq]
  obtain ⟨out, r1, r2, r3⟩ := r13_all_l3 n l (by omega) l [] loopFuel [] 0 l.length rfl rfl rfl (by unfold loopFuel; omega) .nil (by simp [some13])
  rw [r1]
  simp only [obind_some, selim_inl]
  rw [tall_eq h r3 r2]
end Go.Proofs.YthjnbidgliejkaaGreat
