/-
  States, third part: what is found, where room is, what lives, two that are equal, a new one.
-/
import Derived.Test.YthjnbidgliejkaaGreatM17
import Derived.Test.YthjnbidgliejkaaGreatP10c
namespace Go.Proofs.YthjnbidgliejkaaGreat
open Go.Flat Go.Plim
set_option linter.unusedVariables false
set_option linter.unusedSimpArgs false
theorem el_get {l : List Ser} {k : Nat} (h : k < l.length) : ∃ y, l[k]? = some y := ⟨l[k], List.getElem?_eq_getElem h⟩
noncomputable def findR (s : Sta) (l : List Lab) : Int × Int := if Whole s then (match findV s l with | some i => ((i : Int), 0) | none => (0, 3)) else (0, 2)
noncomputable def roomR (s : Sta) : Int × Int := if Whole s then (match roomV s with | some i => ((i : Int), 0) | none => (0, 7)) else (0, 2)
noncomputable def liveR (s : Sta) : List Int := if Whole s then (liveV s).map Int.ofNat else []
def IsF (s : Sta) (l : List Lab) (k : Nat) : Prop := ∃ y, s.2.2.2[k]? = some y ∧ y.1 = l ∧ LvX s y
noncomputable instance (s l k) : Decidable (IsF s l k) := Classical.propDecidable _
def IsR (s : Sta) (k : Nat) : Prop := ∃ y, s.2.2.2[k]? = some y ∧ ¬ LvX s y
noncomputable instance (s k) : Decidable (IsR s k) := Classical.propDecidable _
theorem find_first {s : Sta} {l : List Lab} {m : Nat} (h : IsF s l m) (hn : ∀ j, j < m → ¬ IsF s l j) : findV s l = some m := by
  obtain ⟨y, h1, h2, h3⟩ := h
  exact findV_some.2 ⟨y, h1, h2, h3, fun j hj z hz k => hn j hj ⟨z, hz, k.1, k.2⟩⟩
theorem find_no {s : Sta} {l : List Lab} (hn : ∀ j, j < s.2.2.2.length → ¬ IsF s l j) : findV s l = none := by
  refine findV_none.2 fun x hx k => ?_
  obtain ⟨i, hi, e⟩ := List.getElem_of_mem hx
  exact hn i hi ⟨x, by rw [List.getElem?_eq_getElem hi, e], k.1, k.2⟩
theorem room_first {s : Sta} {m : Nat} (h : IsR s m) (hn : ∀ j, j < m → ¬ IsR s j) : roomV s = some m := by
  obtain ⟨y, h1, h2⟩ := h
  exact roomV_some.2 ⟨y, h1, h2, fun j hj z hz => Decidable.byContradiction fun k => hn j hj ⟨z, hz, k⟩⟩
theorem room_no {s : Sta} (hn : ∀ j, j < s.2.2.2.length → ¬ IsR s j) : roomV s = none := by
  refine roomV_none.2 fun x hx => Decidable.byContradiction fun k => ?_
  obtain ⟨i, hi, e⟩ := List.getElem_of_mem hx
  exact hn i hi ⟨x, by rw [List.getElem?_eq_getElem hi, e], k⟩
theorem state_find (n : Nat) {s : Sta} (hw : StaW s) (l : List Lab) : state_Find (n + 10) s l = some (findR s l) := by
  rw [state_Find_eq, st_open (n + 5) s, obind_some, tif_not, tif_dec]
  unfold findR
  by_cases h : Whole s
  case neg => rw [if_neg h, if_neg h, if_neg (show ¬ ((sta0, (2 : Int)).2 = 0) by decide)]
  rw [if_pos h, if_pos h, if_pos rfl]
  have his : ∀ k : Nat, k < s.2.2.2.length → (fun y1 : Int × Unit => state_Find_1 (n + 9) y1.1 s l s) ((k : Int), ()) = some (decide (IsF s l k)) := by
    intro k hk
    obtain ⟨y, hy⟩ := el_get hk
    have hm := (hw.at hy).2
    show state_Find_1 (n + 9) (k : Int) s l s = _
    rw [state_Find_1_eq, at_el hy, obind_some, label_same (n + 6) _ _ hm.l, obind_some, tif_dec, st_lives (n + 1) hy hm, obind_some]
    by_cases h1 : y.1 = l
    · rw [if_pos h1]
      refine congrArg some (decide_eq_decide.2 ⟨fun k => ⟨y, hy, h1, k⟩, fun ⟨z, z1, z2, z3⟩ => ?_⟩)
      rw [hy] at z1; cases z1; exact z3
    · rw [if_neg h1, decide_eq_false (fun q : IsF s l k => by obtain ⟨z, z1, z2, z3⟩ := q; rw [hy] at z1; cases z1; exact h1 z2)]
  rcases first_val (n + 8) s (fun y1 : Int × Unit => state_Find_1 (n + 9) y1.1 s l s) (fun k => decide (IsF s l k)) (by have := h.len; omega) his with ⟨m, q1, q2, q3, q4⟩ | ⟨q1, q2⟩
  · rw [show (fun y1 : Int × Unit => state_Find_1 (n + 9) y1.1 s l (s, (0 : Int)).1) = fun y1 : Int × Unit => state_Find_1 (n + 9) y1.1 s l s from rfl, q4, obind_some, tif_dec, if_neg (by omega), find_first (of_decide_eq_true q2) (fun j hj => of_decide_eq_false (q3 j hj))]
  · rw [show (fun y1 : Int × Unit => state_Find_1 (n + 9) y1.1 s l (s, (0 : Int)).1) = fun y1 : Int × Unit => state_Find_1 (n + 9) y1.1 s l s from rfl, q2, obind_some, tif_dec, if_pos (by decide), find_no (fun j hj => of_decide_eq_false (q1 j hj))]
theorem state_room (n : Nat) {s : Sta} (hw : StaW s) : state_Room (n + 10) s = some (roomR s) := by
  rw [state_Room_eq, st_open (n + 5) s, obind_some, tif_not, tif_dec]
  unfold roomR
  by_cases h : Whole s
  case neg => rw [if_neg h, if_neg h, if_neg (show ¬ ((sta0, (2 : Int)).2 = 0) by decide)]
  rw [if_pos h, if_pos h, if_pos rfl]
  have his : ∀ k : Nat, k < s.2.2.2.length → (fun y1 : Int × Unit => state_Room_1 (n + 9) y1.1 s) ((k : Int), ()) = some (decide (IsR s k)) := by
    intro k hk
    obtain ⟨y, hy⟩ := el_get hk
    have hm := (hw.at hy).2
    show state_Room_1 (n + 9) (k : Int) s = _
    rw [state_Room_1_eq, st_lives (n + 1) hy hm, obind_some]
    by_cases h1 : LvX s y
    · rw [decide_eq_true h1, decide_eq_false (fun q : IsR s k => by obtain ⟨z, z1, z2⟩ := q; rw [hy] at z1; cases z1; exact z2 h1)]; rfl
    · rw [decide_eq_false h1, decide_eq_true (show IsR s k from ⟨y, hy, h1⟩)]; rfl
  rcases first_val (n + 8) s (fun y1 : Int × Unit => state_Room_1 (n + 9) y1.1 s) (fun k => decide (IsR s k)) (by have := h.len; omega) his with ⟨m, q1, q2, q3, q4⟩ | ⟨q1, q2⟩
  · rw [show (fun y1 : Int × Unit => state_Room_1 (n + 9) y1.1 (s, (0 : Int)).1) = fun y1 : Int × Unit => state_Room_1 (n + 9) y1.1 s from rfl, q4, obind_some, tif_dec, if_neg (by omega), room_first (of_decide_eq_true q2) (fun j hj => of_decide_eq_false (q3 j hj))]
  · rw [show (fun y1 : Int × Unit => state_Room_1 (n + 9) y1.1 (s, (0 : Int)).1) = fun y1 : Int × Unit => state_Room_1 (n + 9) y1.1 s from rfl, q2, obind_some, tif_dec, if_pos (by decide), room_no (fun j hj => of_decide_eq_false (q1 j hj))]
theorem r17_find_l4 (n : Nat) {s : Sta} (hw : StaW s) (hL : s.2.2.2.length ≤ 1000000) (l : List Lab) : ∀ (d k f : Nat), k + d = s.2.2.2.length → d < f →
    (∃ m : Nat, k ≤ m ∧ IsF s l m ∧ (∀ j, k ≤ j → j < m → ¬ IsF s l j) ∧ r17_Find_l4 (n + 6) f (l, s, s.2.2.2, (s.2.2.2.length : Int), (k : Int), ()) = some (.inr ((m : Int), 0))) ∨
    ((∀ j, k ≤ j → j < s.2.2.2.length → ¬ IsF s l j) ∧ r17_Find_l4 (n + 6) f (l, s, s.2.2.2, (s.2.2.2.length : Int), (k : Int), ()) = some (.inl ())) := by
  intro d
  induction d with
  | zero =>
    intro k f hk hf
    obtain ⟨f, rfl⟩ : ∃ g, f = g + 1 := ⟨f - 1, by omega⟩
    refine .inr ⟨fun j h1 h2 => by omega, ?_⟩
    rw [r17_Find_l4_eq, decide_eq_false (by omega), tif_false]
  | succ d ih =>
    intro k f hk hf
    obtain ⟨f, rfl⟩ : ∃ g, f = g + 1 := ⟨f - 1, by omega⟩
    obtain ⟨y, hy⟩ := el_get (l := s.2.2.2) (k := k) (by omega)
    have hm := (hw.at hy).2
    have ih' := ih (k + 1) f (by omega) (by omega)
    have next : ¬ IsF s l k → ((∃ m : Nat, k ≤ m ∧ IsF s l m ∧ (∀ j, k ≤ j → j < m → ¬ IsF s l j) ∧ r17_Find_l4 (n + 6) f (l, s, s.2.2.2, (s.2.2.2.length : Int), ((k + 1 : Nat) : Int), ()) = some (.inr ((m : Int), 0))) ∨
    ((∀ j, k ≤ j → j < s.2.2.2.length → ¬ IsF s l j) ∧ r17_Find_l4 (n + 6) f (l, s, s.2.2.2, (s.2.2.2.length : Int), ((k + 1 : Nat) : Int), ()) = some (.inl ()))) := by
      intro hn
      have low : ∀ j, k ≤ j → ¬ k + 1 ≤ j → ¬ IsF s l j := fun j h1 h2 => by rw [show j = k by omega]; exact hn
      rcases ih' with ⟨m, h1, h2, h3, h4⟩ | ⟨h1, h2⟩
      · exact .inl ⟨m, by omega, h2, fun j q1 q2 => if z : k + 1 ≤ j then h3 j z q2 else low j q1 z, h4⟩
      · exact .inr ⟨fun j q1 q2 => if z : k + 1 ≤ j then h1 j z q2 else low j q1 z, h2⟩
    rw [r17_Find_l4_eq, decide_eq_true (by omega), tif_true, at_el hy, obind_some, r17_lives_val n hy hm, obind_some, tif_dec, eq_r05_Same (n + 5) _ _ hm.l, obind_some, tif_dec, w64 (by omega) (by omega), show ((k : Int) + 1) = ((k + 1 : Nat) : Int) by omega]
    by_cases h1 : LvX s y
    case neg => rw [if_neg h1]; exact next (fun q => by obtain ⟨z, z1, z2, z3⟩ := q; rw [hy] at z1; cases z1; exact h1 z3)
    rw [if_pos h1]
    by_cases h2 : y.1 = l
    case neg => rw [if_neg h2]; exact next (fun q => by obtain ⟨z, z1, z2, z3⟩ := q; rw [hy] at z1; cases z1; exact h2 z2)
    rw [if_pos h2]
    exact .inl ⟨k, Nat.le_refl _, ⟨y, hy, h2, h1⟩, fun j q1 q2 => by omega, rfl⟩
theorem r17_find (n : Nat) {s : Sta} (hw : StaW s) (l : List Lab) : r17_Find (n + 7) s l = some (findR s l) := by
  rw [r17_Find_eq, r17_whole_val (n + 2) s, obind_some, tif_not, tif_dec]
  unfold findR
  by_cases h : Whole s
  case neg => rw [if_neg h, if_neg h]
  rw [if_pos h, if_pos h]
  have hL := h.len
  rcases r17_find_l4 n hw (by omega) l s.2.2.2.length 0 loopFuel (by omega) (by unfold loopFuel; omega) with ⟨m, q1, q2, q3, q4⟩ | ⟨q1, q2⟩
  · have q4' : r17_Find_l4 (n + 6) loopFuel (l, s, s.2.2.2, (s.2.2.2.length : Int), (0 : Int), ()) = some (.inr ((m : Int), 0)) := q4
    rw [q4', obind_some, selim_inr, find_first q2 (fun j hj => q3 j (by omega) hj)]
  · have q2' : r17_Find_l4 (n + 6) loopFuel (l, s, s.2.2.2, (s.2.2.2.length : Int), (0 : Int), ()) = some (.inl ()) := q2
    rw [q2', obind_some, selim_inl, find_no (fun j hj => q1 j (by omega) hj)]
theorem r17_room_l4 (n : Nat) {s : Sta} (hw : StaW s) (hL : s.2.2.2.length ≤ 1000000) : ∀ (d k f : Nat), k + d = s.2.2.2.length → d < f →
    (∃ m : Nat, k ≤ m ∧ IsR s m ∧ (∀ j, k ≤ j → j < m → ¬ IsR s j) ∧ r17_Room_l4 (n + 6) f (s, (s.2.2.2.length : Int), (k : Int), ()) = some (.inr ((m : Int), 0))) ∨
    ((∀ j, k ≤ j → j < s.2.2.2.length → ¬ IsR s j) ∧ r17_Room_l4 (n + 6) f (s, (s.2.2.2.length : Int), (k : Int), ()) = some (.inl ())) := by
  intro d
  induction d with
  | zero =>
    intro k f hk hf
    obtain ⟨f, rfl⟩ : ∃ g, f = g + 1 := ⟨f - 1, by omega⟩
    refine .inr ⟨fun j h1 h2 => by omega, ?_⟩
    rw [r17_Room_l4_eq, decide_eq_false (by omega), tif_false]
  | succ d ih =>
    intro k f hk hf
    obtain ⟨f, rfl⟩ : ∃ g, f = g + 1 := ⟨f - 1, by omega⟩
    obtain ⟨y, hy⟩ := el_get (l := s.2.2.2) (k := k) (by omega)
    have hm := (hw.at hy).2
    have ih' := ih (k + 1) f (by omega) (by omega)
    rw [r17_Room_l4_eq, decide_eq_true (by omega), tif_true, r17_lives_val n hy hm, obind_some, tif_not, tif_dec, w64 (by omega) (by omega), show ((k : Int) + 1) = ((k + 1 : Nat) : Int) by omega]
    by_cases h1 : LvX s y
    · rw [if_pos h1]
      have hn : ¬ IsR s k := fun q => by obtain ⟨z, z1, z2⟩ := q; rw [hy] at z1; cases z1; exact z2 h1
      have low : ∀ j, k ≤ j → ¬ k + 1 ≤ j → ¬ IsR s j := fun j h1 h2 => by rw [show j = k by omega]; exact hn
      rcases ih' with ⟨m, h1, h2, h3, h4⟩ | ⟨h1, h2⟩
      · exact .inl ⟨m, by omega, h2, fun j q1 q2 => if z : k + 1 ≤ j then h3 j z q2 else low j q1 z, h4⟩
      · exact .inr ⟨fun j q1 q2 => if z : k + 1 ≤ j then h1 j z q2 else low j q1 z, h2⟩
    · rw [if_neg h1]
      exact .inl ⟨k, Nat.le_refl _, ⟨y, hy, h1⟩, fun j q1 q2 => by omega, rfl⟩
theorem r17_room (n : Nat) {s : Sta} (hw : StaW s) : r17_Room (n + 7) s = some (roomR s) := by
  rw [r17_Room_eq, r17_whole_val (n + 2) s, obind_some, tif_not, tif_dec]
  unfold roomR
  by_cases h : Whole s
  case neg => rw [if_neg h, if_neg h]
  rw [if_pos h, if_pos h]
  have hL := h.len
  rcases r17_room_l4 n hw (by omega) s.2.2.2.length 0 loopFuel (by omega) (by unfold loopFuel; omega) with ⟨m, q1, q2, q3, q4⟩ | ⟨q1, q2⟩
  · have q4' : r17_Room_l4 (n + 6) loopFuel (s, (s.2.2.2.length : Int), (0 : Int), ()) = some (.inr ((m : Int), 0)) := q4
    rw [q4', obind_some, selim_inr, room_first q2 (fun j hj => q3 j (by omega) hj)]
  · have q2' : r17_Room_l4 (n + 6) loopFuel (s, (s.2.2.2.length : Int), (0 : Int), ()) = some (.inl ()) := q2
    rw [q2', obind_some, selim_inl, room_no (fun j hj => q1 j (by omega) hj)]
/-! ### what lives -/
theorem lvAt_el {s : Sta} {k : Nat} {y : Ser} (h : s.2.2.2[k]? = some y) : decide (LvX s y) = lvAt s k := (lvAt_some h).symm
theorem st_live_l6 (n : Nat) {s : Sta} (hw : StaW s) (hL : s.2.2.2.length ≤ 1000000) : ∀ (d k f : Nat) (out : List Int), k + d = s.2.2.2.length → d < f → out.length ≤ k →
    state_Live_l6 (n + 7) f (s, out, (s.2.2.2.length : Int), (k : Int), ()) = some (.inl (out ++ ((List.range' k d).filter (lvAt s)).map Int.ofNat, ())) := by
  intro d
  induction d with
  | zero =>
    intro k f out hk hf ho
    obtain ⟨f, rfl⟩ : ∃ g, f = g + 1 := ⟨f - 1, by omega⟩
    rw [state_Live_l6_eq, decide_eq_false (by omega), tif_false]; simp
  | succ d ih =>
    intro k f out hk hf ho
    obtain ⟨f, rfl⟩ : ∃ g, f = g + 1 := ⟨f - 1, by omega⟩
    obtain ⟨y, hy⟩ := el_get (l := s.2.2.2) (k := k) (by omega)
    rw [state_Live_l6_eq, decide_eq_true (by omega), tif_true, st_lives n hy (hw.at hy).2, obind_some, lvAt_el hy, w64 (by omega) (by omega), show ((k : Int) + 1) = ((k + 1 : Nat) : Int) by omega, List.range'_succ]
    cases h : lvAt s k
    · rw [tif_false, ih (k + 1) f out (by omega) (by omega) (by omega), List.filter_cons_of_neg (by simp [h])]
    · rw [tif_true, decide_eq_true (by omega), tif_true, ih (k + 1) f _ (by omega) (by omega) (by simp; omega), List.filter_cons_of_pos h]; simp
theorem state_live (n : Nat) {s : Sta} (hw : StaW s) : state_Live (n + 8) s = some (liveR s) := by
  rw [state_Live_eq, st_open (n + 3) s, obind_some, tif_not, tif_dec]
  unfold liveR
  by_cases h : Whole s
  case neg => rw [if_neg h, if_neg h, if_neg (show ¬ ((sta0, (2 : Int)).2 = 0) by decide)]
  rw [if_pos h, if_pos h, if_pos rfl]
  have hL := h.len
  have e : state_Live_l6 (n + 7) loopFuel (s, ([] : List Int), (s.2.2.2.length : Int), (0 : Int), ()) = _ := st_live_l6 n hw (by omega) s.2.2.2.length 0 loopFuel [] (by omega) (by unfold loopFuel; omega) (by simp)
  simp only
  rw [e, obind_some, selim_inl]
  unfold liveV
  rw [List.range_eq_range']; rfl
theorem r17_live_l5 (n : Nat) {s : Sta} (hw : StaW s) (hL : s.2.2.2.length ≤ 1000000) : ∀ (d k f : Nat) (out : List Int), k + d = s.2.2.2.length → d < f → out.length ≤ k →
    r17_Live_l5 (n + 6) f (s, out, (s.2.2.2.length : Int), (k : Int), ()) = some (.inl (out ++ ((List.range' k d).filter (lvAt s)).map Int.ofNat, ())) := by
  intro d
  induction d with
  | zero =>
    intro k f out hk hf ho
    obtain ⟨f, rfl⟩ : ∃ g, f = g + 1 := ⟨f - 1, by omega⟩
    rw [r17_Live_l5_eq, decide_eq_false (by omega), tif_false]; simp
  | succ d ih =>
    intro k f out hk hf ho
    obtain ⟨f, rfl⟩ : ∃ g, f = g + 1 := ⟨f - 1, by omega⟩
    obtain ⟨y, hy⟩ := el_get (l := s.2.2.2) (k := k) (by omega)
    rw [r17_Live_l5_eq, decide_eq_true (by omega), tif_true, r17_lives_val n hy (hw.at hy).2, obind_some, lvAt_el hy, w64 (by omega) (by omega), show ((k : Int) + 1) = ((k + 1 : Nat) : Int) by omega, List.range'_succ]
    cases h : lvAt s k
    · rw [tif_false, ih (k + 1) f out (by omega) (by omega) (by omega), List.filter_cons_of_neg (by simp [h])]
    · rw [tif_true, decide_eq_true (by omega), tif_true, ih (k + 1) f _ (by omega) (by omega) (by simp; omega), List.filter_cons_of_pos h]; simp
theorem r17_live (n : Nat) {s : Sta} (hw : StaW s) : r17_Live (n + 7) s = some (liveR s) := by
  rw [r17_Live_eq, r17_whole_val (n + 2) s, obind_some, tif_not, tif_dec]
  unfold liveR
  by_cases h : Whole s
  case neg => rw [if_neg h, if_neg h]
  rw [if_pos h, if_pos h]
  have hL := h.len
  have e : r17_Live_l5 (n + 6) loopFuel (s, ([] : List Int), (s.2.2.2.length : Int), (0 : Int), ()) = _ := r17_live_l5 n hw (by omega) s.2.2.2.length 0 loopFuel [] (by omega) (by unfold loopFuel; omega) (by simp)
  rw [e, obind_some, selim_inl]
  unfold liveV
  rw [List.range_eq_range']; rfl
theorem state_many (n : Nat) {s : Sta} (hw : StaW s) : state_Many (n + 9) s = some ((liveR s).length : Int) := by
  rw [state_Many_eq, state_live n hw]; rfl
theorem liveR_len {s : Sta} (h : Whole s) : (liveR s).length = (liveV s).length := by
  unfold liveR; rw [if_pos h]; simp
theorem liveR_small (s : Sta) : (liveR s).length ≤ 65536 := by
  unfold liveR
  split
  · rename_i h; have := h.len; have := live_len s; simp; omega
  · simp
theorem r06_same_l4 (n : Nat) (a : List Int) (hL : a.length ≤ 1000000) : ∀ (rest pre : List Int) (f : Nat) (ix len : Int), a = pre ++ rest → ix = pre.length → len = a.length → rest.length < f → r06_Same_l4 n f (a, a, len, ix, ()) = some (.inl ()) := by
  intro rest
  induction rest with
  | nil =>
    intro pre f ix len hl hi hn hf
    obtain ⟨f, rfl⟩ : ∃ g, f = g + 1 := ⟨f - 1, by simp at hf; omega⟩
    rw [r06_Same_l4_eq]
    simp only [tif_dec, if_neg (idxe hl hi hn)]
  | cons x rest ih =>
    intro pre f ix len hl hi hn hf
    obtain ⟨f, rfl⟩ : ∃ g, f = g + 1 := ⟨f - 1, by simp at hf; omega⟩
    rw [r06_Same_l4_eq]
    simp only [tif_dec, if_pos (idx hl hi hn), at_mid hl hi, obind_some, decide_true, Bool.not_true, tif_false, idxw hl hi (show a.length ≤ 1000000000000 by omega)]
    exact ih (pre ++ [x]) f (ix + 1) len (idxl hl) (idxs hi) hn (by simp at hf; omega)
theorem r06_same_refl (n : Nat) (a : List Int) (hL : a.length ≤ 1000000) : r06_Same (n + 1) a a = some true := by
  rw [r06_Same_eq]
  simp only [decide_true, Bool.not_true, tif_false, r06_same_l4 n a hL a [] loopFuel 0 _ rfl rfl rfl (by unfold loopFuel; omega), obind_some, selim_inl]
noncomputable def livesB (s : Sta) (i : Int) : Bool := decide (Whole s ∧ 0 ≤ i ∧ lvAt s i.toNat = true)
theorem lvAt_lt {s : Sta} {k : Nat} (h : lvAt s k = true) : k < s.2.2.2.length := by
  unfold lvAt at h
  cases hx : s.2.2.2[k]? with
  | none => rw [hx] at h; cases h
  | some x => exact (List.getElem?_eq_some_iff.1 hx).1
theorem state_lives (n : Nat) {s : Sta} (hw : StaW s) (i : Int) : state_Lives (n + 8) s i = some (livesB s i) := by
  rw [state_Lives_eq, st_open (n + 3) s, obind_some, tif_dec, tif_dec, tif_dec]
  unfold livesB
  by_cases h : Whole s
  case neg => rw [if_neg h, if_neg (show ¬ ((sta0, (2 : Int)).2 = 0) by decide), decide_eq_false (fun k => h k.1)]
  rw [if_pos h, if_pos rfl]
  by_cases h1 : 0 ≤ i
  case neg => rw [if_neg h1, decide_eq_false (fun k => h1 k.2.1)]
  rw [if_pos h1]
  by_cases h2 : i < (s.2.2.2.length : Int)
  · rw [if_pos h2]
    obtain ⟨y, hy⟩ := el_get (l := s.2.2.2) (k := i.toNat) (by omega)
    have e := st_lives n hy (hw.at hy).2
    rw [show ((i.toNat : Nat) : Int) = i by omega] at e
    simp only
    rw [e, obind_some, lvAt_el hy]
    cases h3 : lvAt s i.toNat
    · rw [decide_eq_false (by rintro ⟨_, _, k⟩; cases k)]
    · rw [decide_eq_true ⟨h, h1, rfl⟩]
  · rw [if_neg h2, decide_eq_false (fun k => by have := lvAt_lt k.2.2; omega)]
theorem r17_Lives_val (n : Nat) {s : Sta} (hw : StaW s) (i : Int) : r17_Lives (n + 7) s i = some (livesB s i) := by
  rw [r17_Lives_eq, r17_whole_val (n + 2) s, obind_some, tif_dec, tif_dec, tif_dec]
  unfold livesB
  by_cases h : Whole s
  case neg => rw [if_neg h, decide_eq_false (fun k => h k.1)]
  rw [if_pos h]
  by_cases h1 : 0 ≤ i
  case neg => rw [if_neg h1, decide_eq_false (fun k => h1 k.2.1)]
  rw [if_pos h1]
  by_cases h2 : i < (s.2.2.2.length : Int)
  · rw [if_pos h2]
    obtain ⟨y, hy⟩ := el_get (l := s.2.2.2) (k := i.toNat) (by omega)
    have e := r17_lives_val n hy (hw.at hy).2
    rw [show ((i.toNat : Nat) : Int) = i by omega] at e
    rw [e, obind_some, lvAt_el hy]
    cases h3 : lvAt s i.toNat
    · rw [decide_eq_false (by rintro ⟨_, _, k⟩; cases k)]
    · rw [decide_eq_true ⟨h, h1, rfl⟩]
  · rw [if_neg h2, decide_eq_false (fun k => by have := lvAt_lt k.2.2; omega)]
noncomputable def markV (s : Sta) : Int := if Whole s ∧ TimeP s.2.1 then mk s else 0
theorem state_mark (n : Nat) (s : Sta) : state_Mark (n + 5) s = some (markV s) := by
  rw [state_Mark_eq, st_open n s, obind_some, tif_not, tif_dec, st_time (n + 3), obind_some, tif_not, tif_dec]
  unfold markV
  by_cases h : Whole s
  case neg => rw [if_neg h, if_neg (show ¬ ((sta0, (2 : Int)).2 = 0) by decide), if_neg (fun k => h k.1)]
  rw [if_pos h, if_pos rfl]
  by_cases h1 : TimeP s.2.1
  case neg => rw [if_neg h1, if_neg (fun k => h1 k.2)]
  rw [if_pos h1, if_pos ⟨h, h1⟩, st_mark (n + 3) h1 h.1.rng.w0]; rfl
theorem r17_Mark_val (n : Nat) (s : Sta) : r17_Mark (n + 5) s = some (markV s) := by
  unfold markV
  by_cases h : Whole s ∧ TimeP s.2.1
  · rw [if_pos h, r17_mark n h.1 h.2]
  rw [if_neg h, r17_Mark_eq, r17_whole_val n s, obind_some, tif_not, tif_dec, r17_time_val (n + 3), obind_some, tif_not, tif_dec]
  by_cases h1 : Whole s
  · rw [if_pos h1, if_neg (fun k => h ⟨h1, k⟩)]
  · rw [if_neg h1]
/-! ### two that are equal -/
theorem eqFunc_l4 (n : Nat) (a b : List Ser) (hL : a.length ≤ 9223372036854775807) (eq : Ser × (Ser × Unit) → Option Bool) (he : ∀ x ∈ a, ∀ y, eq (x, (y, ())) = some (decide (x = y))) : ∀ (ra rb pa pb : List Ser) (f : Nat) (ix len : Int), a = pa ++ ra → b = pb ++ rb → pa.length = pb.length → ra.length = rb.length → ix = pa.length → len = a.length → ra.length < f →
    slices_EqualFunc_SeriesSeries_Series_Series_l4 n f (b, eq, a, len, ix, ()) = some (if ra = rb then .inl () else .inr false) := by
  intro ra
  induction ra with
  | nil =>
    intro rb pa pb f ix len ha hb hp hr hi hn hf
    obtain ⟨f, rfl⟩ : ∃ g, f = g + 1 := ⟨f - 1, by simp at hf; omega⟩
    have : rb = [] := List.length_eq_zero_iff.1 (by simpa using hr.symm)
    subst this
    rw [slices_EqualFunc_SeriesSeries_Series_Series_l4_eq, decide_eq_false (idxe ha hi hn), tif_false, if_pos rfl]
  | cons x ra ih =>
    intro rb pa pb f ix len ha hb hp hr hi hn hf
    obtain ⟨f, rfl⟩ : ∃ g, f = g + 1 := ⟨f - 1, by simp at hf; omega⟩
    cases rb with
    | nil => simp at hr
    | cons y rb =>
      have hlen := congrArg List.length ha
      simp at hlen
      rw [slices_EqualFunc_SeriesSeries_Series_Series_l4_eq, decide_eq_true (idx ha hi hn), tif_true, at_mid ha hi, obind_some, at_mid hb (by rw [hi, hp]), obind_some, he x (by rw [ha]; simp) y, obind_some, tif_not, tif_dec, w64 (by omega) (by omega)]
      by_cases h : x = y
      · subst h
        rw [if_pos rfl, ih rb (pa ++ [x]) (pb ++ [x]) f (ix + 1) len (idxl ha) (idxl hb) (by simp [hp]) (by simpa using hr) (idxs hi) hn (by simp at hf; omega)]
        by_cases h2 : ra = rb
        · rw [if_pos h2, if_pos (by rw [h2])]
        · rw [if_neg h2, if_neg (by intro k; injection k with _ k; exact h2 k)]
      · rw [if_neg h, if_neg (by intro k; injection k with k _; exact h k)]
theorem state_same (n : Nat) {a : Sta} (ha : StaW a) (b : Sta) : state_Same (n + 5) a b = some (decide (a = b)) := by
  have he : ∀ x ∈ a.2.2.2, ∀ y, (fun y0 : Ser × (Ser × Unit) => series_Same (n + 4) y0.1 y0.2.1) (x, (y, ())) = some (decide (x = y)) := fun x hx y => series_same (n + 1) x y (ha.ser x hx).2
  rw [state_Same_eq, confEq, tif_dec, tif_dec, tif_dec, slices_EqualFunc_SeriesSeries_Series_Series_eq, tif_not, tif_dec]
  obtain ⟨a1, a2, a3, a4⟩ := a
  obtain ⟨b1, b2, b3, b4⟩ := b
  simp only at ha he ⊢
  by_cases h1 : a1 = b1
  case neg => rw [if_neg h1, decide_eq_false (fun k => h1 (congrArg Prod.fst k))]
  rw [if_pos h1]
  by_cases h2 : a2 = b2
  case neg => rw [if_neg h2, decide_eq_false (fun k => h2 (congrArg (fun z => z.2.1) k))]
  rw [if_pos h2]
  by_cases h3 : a3 = b3
  case neg => rw [if_neg h3, decide_eq_false (fun k => h3 (congrArg (fun z => z.2.2.1) k))]
  rw [if_pos h3]
  by_cases h4 : (a4.length : Int) = b4.length
  case neg => rw [if_neg h4, obind_some, decide_eq_false (fun k => h4 (congrArg (fun z => ((z.2.2.2.length : Nat) : Int)) k))]
  rw [if_pos h4, eqFunc_l4 (n + 3) a4 b4 ha.len (fun y0 : Ser × (Ser × Unit) => series_Same (n + 4) y0.1 y0.2.1) he a4 b4 [] [] loopFuel 0 _ rfl rfl rfl (by omega) rfl rfl (by have := ha.len; simp only at this; unfold loopFuel; omega)]
  by_cases h5 : a4 = b4
  · rw [if_pos h5, decide_eq_true (by rw [h1, h2, h3, h5])]; rfl
  · rw [if_neg h5, decide_eq_false (fun k => h5 (congrArg (fun z => z.2.2.2) k))]; rfl
theorem r17_same_l4g (n : Nat) {s t : Sta} (hw : StaW s) (hl : s.2.2.2.length = t.2.2.2.length) : ∀ (d i f : Nat), i + d = s.2.2.2.length → d < f → r17_Same_l4 (n + 3) f (s, t, (s.2.2.2.length : Int), (i : Int), ()) = some (if s.2.2.2.drop i = t.2.2.2.drop i then .inl () else .inr false) := by
  have hL := hw.len
  intro d
  induction d with
  | zero =>
    intro i f hi hf
    obtain ⟨f, rfl⟩ : ∃ g, f = g + 1 := ⟨f - 1, by omega⟩
    rw [r17_Same_l4_eq, decide_eq_false (by omega), tif_false, if_pos]
    rw [List.drop_eq_nil_of_le (by omega), List.drop_eq_nil_of_le (by omega)]
  | succ d ih =>
    intro i f hi hf
    obtain ⟨f, rfl⟩ : ∃ g, f = g + 1 := ⟨f - 1, by omega⟩
    obtain ⟨x, hx⟩ := el_get (l := s.2.2.2) (k := i) (by omega)
    obtain ⟨y, hy⟩ := el_get (l := t.2.2.2) (k := i) (by omega)
    have ex : s.2.2.2.drop i = x :: s.2.2.2.drop (i + 1) := by
      obtain ⟨h1, h2⟩ := List.getElem?_eq_some_iff.1 hx
      rw [List.drop_eq_getElem_cons h1, h2]
    have ey : t.2.2.2.drop i = y :: t.2.2.2.drop (i + 1) := by
      obtain ⟨h1, h2⟩ := List.getElem?_eq_some_iff.1 hy
      rw [List.drop_eq_getElem_cons h1, h2]
    rw [r17_Same_l4_eq, decide_eq_true (by omega), tif_true, at_el hx, obind_some, at_el hy, obind_some, r15_same n x y (hw.at hx).2, obind_some, tif_not, tif_dec, w64 (by omega) (by omega), show ((i : Int) + 1) = ((i + 1 : Nat) : Int) by omega, ih (i + 1) f (by omega) (by omega), ex, ey]
    by_cases h : x = y
    · subst h
      rw [if_pos rfl]
      by_cases h2 : s.2.2.2.drop (i + 1) = t.2.2.2.drop (i + 1)
      · rw [if_pos h2, if_pos (by rw [h2])]
      · rw [if_neg h2, if_neg (by intro k; injection k with _ k; exact h2 k)]
    · rw [if_neg h, if_neg (by intro k; injection k with k _; exact h k)]
theorem r17_same (n : Nat) {a : Sta} (ha : StaW a) (b : Sta) : r17_Same (n + 4) a b = some (decide (a = b)) := by
  rw [r17_Same_eq, confEq, tif_not, tif_dec, tif_not, tif_dec, tif_not, tif_dec, tif_not, tif_dec]
  by_cases h1 : a.1 = b.1
  case neg => rw [if_neg h1, decide_eq_false (fun k => h1 (congrArg Prod.fst k))]
  rw [if_pos h1]
  by_cases h2 : a.2.1 = b.2.1
  case neg => rw [if_neg h2, decide_eq_false (fun k => h2 (congrArg (fun z : Sta => z.2.1) k))]
  rw [if_pos h2]
  by_cases h3 : a.2.2.1 = b.2.2.1
  case neg => rw [if_neg h3, decide_eq_false (fun k => h3 (congrArg (fun z : Sta => z.2.2.1) k))]
  rw [if_pos h3]
  by_cases h4 : (a.2.2.2.length : Int) = b.2.2.2.length
  case neg => rw [if_neg h4, decide_eq_false (fun k => h4 (congrArg (fun z : Sta => ((z.2.2.2.length : Nat) : Int)) k))]
  have e : r17_Same_l4 (n + 3) loopFuel (a, b, (a.2.2.2.length : Int), (0 : Int), ()) = _ := r17_same_l4g n ha (by omega) a.2.2.2.length 0 loopFuel (by omega) (by have := ha.len; unfold loopFuel; omega)
  rw [if_pos h4, e, List.drop_zero, List.drop_zero]
  by_cases h5 : a.2.2.2 = b.2.2.2
  · rw [if_pos h5, decide_eq_true (Prod.ext h1 (Prod.ext h2 (Prod.ext h3 h5)))]; rfl
  · rw [if_neg h5, decide_eq_false (fun k => h5 (congrArg (fun z : Sta => z.2.2.2) k))]; rfl
/-! ### a new one -/
noncomputable def newSt (c : Conf) : Sta × Int := if OkC c then (if (sizR c).2 = 0 then ((c, (0, (-1, List.replicate c.2.2.2.1.toNat ser0))), 0) else (sta0, (sizR c).2)) else (sta0, 2)
theorem cap_test {c : Conf} (h : OkC c) : ((decide ((0 : Int) ≤ c.2.2.2.1)) && ((decide (c.2.2.2.1 ≤ c.2.2.2.1)) && (decide ((c.2.2.2.1 * (264 : Int)) ≤ (140737488355328 : Int))))) = true := by
  have := h.rng.cap
  rw [decide_eq_true (by omega), decide_eq_true (by omega), decide_eq_true (by omega)]; rfl
theorem state_new (n : Nat) (c : Conf) : state_New (n + 7) c = some (newSt c) := by
  rw [state_New_eq]
  unfold newSt
  by_cases h : OkC c
  case neg => rw [(size_no n h).1, if_neg h]; rfl
  rw [(size_ok n h).1, if_pos h, obind_some, tif_not, tif_dec]
  by_cases h1 : (sizR c).2 = 0
  · rw [if_pos h1, if_pos h1, cap_test h]; rfl
  · rw [if_neg h1, if_neg h1]; rfl
theorem r17_new (n : Nat) (c : Conf) : r17_New (n + 7) c = some (newSt c) := by
  rw [r17_New_eq]
  unfold newSt
  by_cases h : OkC c
  case neg => rw [(size_no n h).2, if_neg h]; rfl
  rw [(size_ok n h).2, if_pos h, obind_some, tif_not, tif_dec]
  by_cases h1 : (sizR c).2 = 0
  · rw [if_pos h1, if_pos h1, cap_test h]; rfl
  · rw [if_neg h1, if_neg h1]; rfl
theorem sta0_w : StaW sta0 := ⟨by simp [sta0], by simp [sta0]⟩
theorem ser0_w : SerW ser0 := by
  refine ⟨?_, ?_, ⟨?_, ?_, ?_⟩, slow_s0⟩
  · unfold I64; simp [ser0]
  · intro e he; simp [ser0, r0w] at he
  · intro x hx; simp [ser0] at hx
  · intro x hx; simp [ser0] at hx
  · intro x hx; simp [ser0] at hx
theorem newSt_w (c : Conf) : StaW (newSt c).1 := by
  unfold newSt
  split
  · rename_i h
    split
    · have := h.rng.cap
      exact ⟨by simp; omega, fun x hx => by rw [List.eq_of_mem_replicate hx]; exact ⟨ser0_w, ser0_m⟩⟩
    · exact sta0_w
  · exact sta0_w
theorem newSt_ok {c : Conf} (h : (newSt c).2 = 0) : StaOk (newSt c).1 ∧ liveV (newSt c).1 = [] := by
  unfold newSt at h ⊢
  by_cases h1 : OkC c
  case neg => rw [if_neg h1] at h; cases h
  rw [if_pos h1] at h ⊢
  by_cases h2 : (sizR c).2 = 0
  case neg => rw [if_neg h2] at h; exact absurd h h2
  rw [if_pos h2]
  have hcap := h1.rng.cap
  have all : ∀ (i : Nat) x, (List.replicate c.2.2.2.1.toNat ser0)[i]? = some x → x = ser0 := fun i x hx => List.eq_of_mem_replicate (List.mem_of_getElem? hx)
  refine ⟨⟨⟨h1, by simp; omega⟩, ⟨⟨by simp, by simp⟩, .inl rfl, by simp⟩, fun i x hx => .inl (all i x hx)⟩, ?_⟩
  unfold liveV
  rw [List.filter_eq_nil_iff]
  intro i hi hl
  obtain ⟨y, hy⟩ := el_get (List.mem_range.1 hi)
  rw [lvAt_some hy] at hl
  exact (of_decide_eq_true hl).1 (all i y hy)
end Go.Proofs.YthjnbidgliejkaaGreat
