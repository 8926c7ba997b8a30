/-
  Events as they were: the ring, what the program and the document keep.
-/
import Derived.Test.YthjnbidgliejkaaGreatP08c
import Derived.Test.YthjnbidgliejkaaGreatP05b
namespace Go.Proofs.YthjnbidgliejkaaGreat
open Go.Flat Go.Plim
set_option linter.unusedVariables false
set_option linter.unusedSimpArgs false
abbrev Rw := Int × (Int × List Ev)
structure RawOk (r : Rw) (room : Int) : Prop where
  m0 : 1 ≤ room
  m1 : room ≤ 4096
  len : (r.2.2.length : Int) ≤ room
  l0 : 0 ≤ r.1
  l1 : r.1 ≤ 70368744177664
  f : Foll r.2.2
  z : r.1 = 0 → r.2.1 = 0
  p : r.1 ≠ 0 → (r.2.2.length : Int) = room ∧ 0 ≤ r.2.1 ∧ ∀ x, r.2.2.head? = some x → r.2.1 < x.1
noncomputable instance (r room) : Decidable (RawOk r room) := Classical.propDecidable _
def RawW (r : Rw) : Prop := ∀ e ∈ r.2.2, EvW e
theorem last_at {l pre rest : List Ev} {x : Ev} {i : Int} (hl : l = pre ++ x :: rest) (hi : i = pre.length) (hL : l.length ≤ 1000000) (h : 0 < i) : ∃ q, pre.getLast? = some q ∧ at? l (IntKind.wrap .i64 (i - 1)) = some q := by
  rcases List.eq_nil_or_concat pre with rfl | ⟨q, y, rfl⟩
  · simp at hi; omega
  rw [List.concat_eq_append] at *
  have hlen := congrArg List.length hl
  simp at hlen hi
  refine ⟨y, by simp, ?_⟩
  rw [w64 (by omega) (by omega)]
  exact at_mid (pre := q) (rest := x :: rest) (by rw [hl]; simp) (by omega)
/-- one more that follows -/
theorem foll_next {pre rest : List Ev} {x : Ev} (hp : Foll pre) : (EvOk x ∧ (∀ q, pre.getLast? = some q → q.1 < x.1)) ↔ Foll (pre ++ [x]) := by
  constructor
  · rintro ⟨h1, h2⟩
    refine foll_snoc.2 ⟨hp, h1, ?_⟩
    rcases List.eq_nil_or_concat pre with rfl | ⟨q, y, rfl⟩
    · simp
    · rw [List.concat_eq_append] at *
      exact last_all hp (y := y) (by simp) (h2 y (by simp))
  · intro h
    obtain ⟨h1, h2, h3⟩ := foll_snoc.1 h
    exact ⟨h2, fun q hq => h3 q (List.mem_of_getLast? hq)⟩
theorem foll_pre {l pre rest : List Ev} {x : Ev} (hl : l = pre ++ x :: rest) (h : Foll l) : Foll (pre ++ [x]) := by
  rw [idxl hl] at h; exact (foll_append.1 h).1
theorem raw_rising_l (n : Nat) (l : List Ev) (hL : l.length ≤ 1000000) (hw : ∀ e ∈ l, EvW e) : ∀ (rest pre : List Ev) (f : Nat) (i len : Int), l = pre ++ rest → i = pre.length → len = l.length → rest.length < f → Foll pre →
    (Foll l → raw_rising_l2 (n + 3) f (l, l, len, i, ()) = some (.inl ())) ∧ (¬ Foll l → raw_rising_l2 (n + 3) f (l, l, len, i, ()) = some (.inr false)) := by
  intro rest
  induction rest with
  | nil =>
    intro pre f i len hl hi hn hf hp
    obtain ⟨f, rfl⟩ : ∃ g, f = g + 1 := ⟨f - 1, by simp at hf; omega⟩
    rw [raw_rising_l2_eq]
    have e : l = pre := by rw [hl, List.append_nil]
    exact ⟨fun _ => by simp only [tif_dec, if_neg (idxe hl hi hn)], fun k => absurd (e ▸ hp) k⟩
  | cons x rest ih =>
    intro pre f i len hl hi hn hf hp
    obtain ⟨f, rfl⟩ : ∃ g, f = g + 1 := ⟨f - 1, by simp at hf; omega⟩
    rw [raw_rising_l2_eq]
    have hx : EvW x := hw x (by rw [hl]; simp)
    have ih' := ih (pre ++ [x]) f (i + 1) len (idxl hl) (idxs hi) hn (by simp at hf; omega)
    simp only [tif_dec, tif_not, if_pos (idx hl hi hn), at_mid hl hi, obind_some, event_check _ hx, z02, idxw hl hi (by omega)]
    have nx := foll_next (rest := rest) (x := x) hp
    by_cases c1 : EvOk x
    case neg => rw [if_neg c1]; exact ⟨fun k => absurd (k.ok x (by rw [hl]; simp)) c1, fun _ => rfl⟩
    rw [if_pos c1]
    by_cases c2 : 0 < i
    · obtain ⟨q, hq, hat⟩ := last_at hl hi hL c2
      have hqo : EvOk q := hp.ok q (List.mem_of_getLast? hq)
      rw [if_pos c2, hat, obind_some, event_follow n (.of hqo) hx]
      simp only [obind_some, tif_dec]
      by_cases c3 : q.1 < x.1
      · rw [if_pos ⟨hqo, c1, c3⟩]
        exact ih' (nx.1 ⟨c1, fun z hz => by rw [hq] at hz; injection hz with hz; rw [← hz]; exact c3⟩)
      · rw [if_neg (fun k => c3 k.2.2)]
        exact ⟨fun k => absurd ((nx.2 (foll_pre hl k)).2 q hq) c3, fun _ => rfl⟩
    · have hpe : pre = [] := List.length_eq_zero_iff.1 (by omega)
      rw [if_neg c2]
      exact ih' (nx.1 ⟨c1, fun z hz => by rw [hpe] at hz; cases hz⟩)
noncomputable instance (l : List Ev) : Decidable (Foll l) := Classical.propDecidable _
theorem raw_rising_val (n : Nat) (l : List Ev) (hL : l.length ≤ 1000000) (hw : ∀ e ∈ l, EvW e) : raw_rising (n + 4) l = some (decide (Foll l)) := by
  rw [raw_rising_eq]
  have h := raw_rising_l n l hL hw l [] loopFuel 0 l.length rfl rfl rfl (by unfold loopFuel; omega) Foll.nil
  by_cases c : Foll l
  · rw [h.1 c, decide_eq_true c]; rfl
  · rw [h.2 c, decide_eq_false c]; rfl
theorem head_at (l : List Ev) : at? l (0 : Int) = l.head? := by cases l <;> rfl
theorem raw_check (n : Nat) (r : Rw) (room : Int) (hw : RawW r) : raw_Check (n + 5) r room = some (if RawOk r room then 0 else 2) := by
  rw [raw_Check_eq]
  simp only [tif_dec]
  by_cases h1 : room < 1
  · rw [if_pos h1, if_neg (fun k : RawOk r room => by have := k.m0; omega)]
  by_cases h2 : 4096 < room
  · rw [if_neg h1, if_pos h2, if_neg (fun k : RawOk r room => by have := k.m1; omega)]
  by_cases h3 : room < r.2.2.length
  · rw [if_neg h1, if_neg h2, if_pos h3, if_neg (fun k : RawOk r room => by have := k.len; omega)]
  by_cases h4 : r.1 < 0
  · rw [if_neg h1, if_neg h2, if_neg h3, if_pos h4, if_neg (fun k : RawOk r room => by have := k.l0; omega)]
  by_cases h5 : 70368744177664 < r.1
  · rw [if_neg h1, if_neg h2, if_neg h3, if_neg h4, if_pos h5, if_neg (fun k : RawOk r room => by have := k.l1; omega)]
  rw [if_neg h1, if_neg h2, if_neg h3, if_neg h4, if_neg h5, raw_rising_val n r.2.2 (by omega) hw, raw_marked_eq]
  simp only [obind_some, tif_not, tif_dec]
  by_cases h6 : Foll r.2.2
  case neg => rw [if_neg h6, if_neg (fun k : RawOk r room => h6 k.f)]
  rw [if_pos h6]
  by_cases h7 : r.1 = 0
  · rw [if_pos h7, obind_some]
    simp only [tif_dec]
    by_cases h8 : r.2.1 = 0
    · rw [if_pos h8, if_pos (⟨by omega, by omega, by omega, by omega, by omega, h6, fun _ => h8, fun k => absurd h7 k⟩ : RawOk r room)]
    · rw [if_neg h8, if_neg (fun k : RawOk r room => h8 (k.z h7))]
  rw [if_neg h7]
  by_cases h8 : (r.2.2.length : Int) = room
  case neg => rw [if_neg h8, if_neg (fun k : RawOk r room => h8 (k.p h7).1)]; rfl
  rw [if_pos h8]
  by_cases h9 : (0 : Int) ≤ r.2.1
  case neg => rw [if_neg h9, if_neg (fun k : RawOk r room => h9 (k.p h7).2.1)]; rfl
  rw [if_pos h9, head_at]
  obtain ⟨x, hx⟩ : ∃ x, r.2.2.head? = some x := by
    cases hh : r.2.2 with
    | nil => rw [hh] at h8; simp at h8; omega
    | cons x l => exact ⟨x, rfl⟩
  rw [hx, obind_some, obind_some]
  simp only [tif_dec]
  by_cases h10 : r.2.1 < x.1
  · rw [if_pos h10, if_pos (⟨by omega, by omega, by omega, by omega, by omega, h6, fun k => absurd k h7, fun _ => ⟨h8, h9, fun y hy => by rw [hx] at hy; injection hy with hy; rw [← hy]; exact h10⟩⟩ : RawOk r room)]
  · rw [if_neg h10, if_neg (fun k : RawOk r room => h10 ((k.p h7).2.2 x hx))]
theorem r12_check_l (n : Nat) (room : Int) (r : Rw) (hL : r.2.2.length ≤ 1000000) (hw : RawW r) : ∀ (rest pre : List Ev) (f : Nat) (i len : Int), r.2.2 = pre ++ rest → i = pre.length → len = r.2.2.length → rest.length < f → Foll pre →
    (Foll r.2.2 → r12_Check_l4 (n + 1) f (room, r, r.2.2, len, i, ()) = some (.inl (room, r, ()))) ∧ (¬ Foll r.2.2 → r12_Check_l4 (n + 1) f (room, r, r.2.2, len, i, ()) = some (.inr 2)) := by
  intro rest
  induction rest with
  | nil =>
    intro pre f i len hl hi hn hf hp
    obtain ⟨f, rfl⟩ : ∃ g, f = g + 1 := ⟨f - 1, by simp at hf; omega⟩
    rw [r12_Check_l4_eq]
    have e : r.2.2 = pre := by rw [hl, List.append_nil]
    exact ⟨fun _ => by simp only [tif_dec, if_neg (idxe hl hi hn)], fun k => absurd (e ▸ hp) k⟩
  | cons x rest ih =>
    intro pre f i len hl hi hn hf hp
    obtain ⟨f, rfl⟩ : ∃ g, f = g + 1 := ⟨f - 1, by simp at hf; omega⟩
    rw [r12_Check_l4_eq]
    have hx : EvW x := hw x (by rw [hl]; simp)
    have ih' := ih (pre ++ [x]) f (i + 1) len (idxl hl) (idxs hi) hn (by simp at hf; omega)
    simp only [tif_dec, tif_not, if_pos (idx hl hi hn), at_mid hl hi, obind_some, r07_check _ hx, z02, idxw hl hi (by omega)]
    have nx := foll_next (rest := rest) (x := x) hp
    by_cases c1 : EvOk x
    case neg => rw [if_neg c1]; exact ⟨fun k => absurd (k.ok x (by rw [hl]; simp)) c1, fun _ => rfl⟩
    rw [if_pos c1]
    by_cases c2 : 0 < i
    · obtain ⟨q, hq, hat⟩ := last_at hl hi hL c2
      rw [if_pos c2, hat, obind_some]
      by_cases c3 : x.1 ≤ q.1
      · rw [if_pos c3]
        exact ⟨fun k => by have := (nx.2 (foll_pre hl k)).2 q hq; omega, fun _ => rfl⟩
      · rw [if_neg c3]
        exact ih' (nx.1 ⟨c1, fun z hz => by rw [hq] at hz; injection hz with hz; rw [← hz]; omega⟩)
    · have hpe : pre = [] := List.length_eq_zero_iff.1 (by omega)
      rw [if_neg c2]
      exact ih' (nx.1 ⟨c1, fun z hz => by rw [hpe] at hz; cases hz⟩)
theorem r12_check (n : Nat) (r : Rw) (room : Int) (hw : RawW r) : r12_Check (n + 2) r room = some (if RawOk r room then 0 else 2) := by
  rw [r12_Check_eq]
  simp only [tif_dec]
  by_cases h1 : room < 1
  · rw [if_pos h1, if_neg (fun k : RawOk r room => by have := k.m0; omega)]
  by_cases h2 : 4096 < room
  · rw [if_neg h1, if_pos h2, if_neg (fun k : RawOk r room => by have := k.m1; omega)]
  by_cases h3 : room < r.2.2.length
  · rw [if_neg h1, if_neg h2, if_pos h3, if_neg (fun k : RawOk r room => by have := k.len; omega)]
  by_cases h4 : r.1 < 0
  · rw [if_neg h1, if_neg h2, if_neg h3, if_pos h4, if_neg (fun k : RawOk r room => by have := k.l0; omega)]
  by_cases h5 : 70368744177664 < r.1
  · rw [if_neg h1, if_neg h2, if_neg h3, if_neg h4, if_pos h5, if_neg (fun k : RawOk r room => by have := k.l1; omega)]
  rw [if_neg h1, if_neg h2, if_neg h3, if_neg h4, if_neg h5]
  have hl := r12_check_l n room r (by omega) hw r.2.2 [] loopFuel 0 _ rfl rfl rfl (by unfold loopFuel; omega) Foll.nil
  by_cases h6 : Foll r.2.2
  case neg => rw [hl.2 h6, if_neg (fun k : RawOk r room => h6 k.f)]; rfl
  rw [hl.1 h6]
  simp only [obind_some, selim_inl, tif_not, tif_dec]
  by_cases h7 : r.1 = 0
  · rw [if_pos h7]
    by_cases h8 : r.2.1 = 0
    · rw [if_pos h8, if_pos (⟨by omega, by omega, by omega, by omega, by omega, h6, fun _ => h8, fun k => absurd h7 k⟩ : RawOk r room)]
    · rw [if_neg h8, if_neg (fun k : RawOk r room => h8 (k.z h7))]
  rw [if_neg h7]
  by_cases h9 : r.2.1 < 0
  · rw [if_pos h9, if_neg (fun k : RawOk r room => by have := (k.p h7).2.1; omega)]
  rw [if_neg h9]
  have hd : ∀ k : RawOk r room, ∃ x, r.2.2.head? = some x ∧ EvOk x := fun k => by
    have h8 := (k.p h7).1
    have := k.m0
    cases hh : r.2.2 with
    | nil => rw [hh] at h8; simp at h8; omega
    | cons x l => exact ⟨x, rfl, h6.ok x (by rw [hh]; simp)⟩
  by_cases h10 : (35184372088832 : Int) ≤ r.2.1
  · rw [if_pos h10, if_neg]
    intro k
    obtain ⟨x, hx, hxo⟩ := hd k
    have := (k.p h7).2.2 x hx
    have := hxo.t1
    omega
  rw [if_neg h10]
  by_cases h8 : (r.2.2.length : Int) = room
  case neg => rw [if_neg h8, if_neg (fun k : RawOk r room => h8 (k.p h7).1)]
  rw [if_pos h8, head_at]
  obtain ⟨x, hx⟩ : ∃ x, r.2.2.head? = some x := by
    cases hh : r.2.2 with
    | nil => rw [hh] at h8; simp at h8; omega
    | cons x l => exact ⟨x, rfl⟩
  rw [hx, obind_some]
  by_cases h11 : x.1 ≤ r.2.1
  · rw [if_pos h11, if_neg (fun k : RawOk r room => by have := (k.p h7).2.2 x hx; omega)]
  · rw [if_neg h11, if_pos (⟨by omega, by omega, by omega, by omega, by omega, h6, fun k => absurd k h7, fun _ => ⟨h8, by omega, fun y hy => by rw [hx] at hy; injection hy with hy; rw [← hy]; omega⟩⟩ : RawOk r room)]
theorem raw_last (n : Nat) (r : Rw) (hL : r.2.2.length ≤ 1000000) : raw_Last (n + 1) r = some (match r.2.2.getLast? with | some e => (e, 0) | none => (e0, 3)) := by
  rw [raw_Last_eq]
  simp only [tif_dec]
  rcases List.eq_nil_or_concat r.2.2 with h | ⟨q, y, h⟩
  · rw [h, if_pos (by simp)]; rfl
  · rw [List.concat_eq_append] at h
    have hlen := congrArg List.length h
    simp at hlen
    rw [if_neg (by omega), w64 (by omega) (by omega), at_mid (pre := q) (rest := []) h (by omega), h]
    simp
theorem r12_last (n : Nat) (r : Rw) (hL : r.2.2.length ≤ 1000000) : r12_Last (n + 1) r = some (match r.2.2.getLast? with | some e => (e, 0) | none => (e0, 3)) := by
  rw [r12_Last_eq]
  simp only [tif_dec]
  rcases List.eq_nil_or_concat r.2.2 with h | ⟨q, y, h⟩
  · rw [h, if_pos (by simp)]; rfl
  · rw [List.concat_eq_append] at h
    have hlen := congrArg List.length h
    simp at hlen
    rw [if_neg (by omega), w64 (by omega) (by omega), at_mid (pre := q) (rest := []) h (by omega), h]
    simp
end Go.Proofs.YthjnbidgliejkaaGreat
