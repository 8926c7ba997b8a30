/-
  States: what is found, where room is, what lives; what is written. Plain laws.
-/
import Derived.Test.YthjnbidgliejkaaGreatP17b
import Derived.Test.YthjnbidgliejkaaGreatM15
namespace Go.Proofs.YthjnbidgliejkaaGreat
open Go.Flat Go.Plim
set_option linter.unusedVariables false
set_option linter.unusedSimpArgs false
/-! ### where -/
noncomputable def findV (s : Sta) (l : List Lab) : Option Nat := s.2.2.2.findIdx? fun x => decide (x.1 = l ∧ LvX s x)
noncomputable def roomV (s : Sta) : Option Nat := s.2.2.2.findIdx? fun x => decide (¬ LvX s x)
noncomputable def lvAt (s : Sta) (i : Nat) : Bool := match s.2.2.2[i]? with | some x => decide (LvX s x) | none => false
noncomputable def liveV (s : Sta) : List Nat := (List.range s.2.2.2.length).filter (lvAt s)
theorem findV_some {s : Sta} {l : List Lab} {i : Nat} : findV s l = some i ↔ ∃ x, s.2.2.2[i]? = some x ∧ x.1 = l ∧ LvX s x ∧ ∀ j, j < i → ∀ y, s.2.2.2[j]? = some y → ¬ (y.1 = l ∧ LvX s y) := by
  unfold findV
  rw [List.findIdx?_eq_some_iff_getElem]
  constructor
  · rintro ⟨h, h1, h2⟩
    have h1 := of_decide_eq_true h1
    refine ⟨_, List.getElem?_eq_getElem h, h1.1, h1.2, fun j hj y hy => ?_⟩
    obtain ⟨hjl, e⟩ := List.getElem?_eq_some_iff.1 hy
    have := h2 j hj
    rw [e] at this
    simpa using this
  · rintro ⟨x, hx, h1, h2, h3⟩
    obtain ⟨hl, e⟩ := List.getElem?_eq_some_iff.1 hx
    refine ⟨hl, by rw [e]; exact decide_eq_true ⟨h1, h2⟩, fun j hj => ?_⟩
    have := h3 j hj _ (List.getElem?_eq_getElem (by omega))
    simpa using this
theorem findV_none {s : Sta} {l : List Lab} : findV s l = none ↔ ∀ x ∈ s.2.2.2, ¬ (x.1 = l ∧ LvX s x) := by
  unfold findV
  rw [List.findIdx?_eq_none_iff]
  simp
theorem roomV_some {s : Sta} {i : Nat} : roomV s = some i ↔ ∃ x, s.2.2.2[i]? = some x ∧ ¬ LvX s x ∧ ∀ j, j < i → ∀ y, s.2.2.2[j]? = some y → LvX s y := by
  unfold roomV
  rw [List.findIdx?_eq_some_iff_getElem]
  constructor
  · rintro ⟨h, h1, h2⟩
    refine ⟨_, List.getElem?_eq_getElem h, of_decide_eq_true h1, fun j hj y hy => ?_⟩
    obtain ⟨hjl, e⟩ := List.getElem?_eq_some_iff.1 hy
    have := h2 j hj
    rw [e] at this
    simpa using this
  · rintro ⟨x, hx, h1, h3⟩
    obtain ⟨hl, e⟩ := List.getElem?_eq_some_iff.1 hx
    refine ⟨hl, by rw [e]; exact decide_eq_true h1, fun j hj => ?_⟩
    have := h3 j hj _ (List.getElem?_eq_getElem (by omega))
    simpa using this
theorem roomV_none {s : Sta} : roomV s = none ↔ ∀ x ∈ s.2.2.2, LvX s x := by
  unfold roomV
  rw [List.findIdx?_eq_none_iff]
  simp
theorem lvAt_some {s : Sta} {i : Nat} {x : Ser} (h : s.2.2.2[i]? = some x) : lvAt s i = decide (LvX s x) := by
  unfold lvAt; rw [h]
/-- of a right state what lives is found by its labels, where it is -/
theorem find_self {s : Sta} (h : StaOk s) {i : Nat} {x : Ser} (hx : s.2.2.2[i]? = some x) (hl : LvX s x) : findV s x.1 = some i := by
  refine findV_some.2 ⟨x, hx, rfl, hl, fun j hj y hy hn => ?_⟩
  rcases h.right i x hx with k | k
  · exact hl.1 k
  · exact k.2.2.2 ⟨hl, j, hj, y, hy, hn.2, hn.1⟩
theorem live_len (s : Sta) : (liveV s).length ≤ s.2.2.2.length := by
  have := List.length_filter_le (lvAt s) (List.range s.2.2.2.length)
  simpa [liveV] using this
theorem live_all {s : Sta} : (liveV s).length = s.2.2.2.length ↔ roomV s = none := by
  unfold liveV
  rw [roomV_none]
  have e : (List.range s.2.2.2.length).length = s.2.2.2.length := List.length_range
  constructor
  · intro h x hx
    obtain ⟨i, hi, e1⟩ := List.getElem_of_mem hx
    have h1 : ∀ a ∈ List.range s.2.2.2.length, lvAt s a = true := by
      rw [← List.length_filter_eq_length_iff]; rw [h, e]
    have h2 := h1 i (List.mem_range.2 hi)
    rw [lvAt_some (List.getElem?_eq_getElem hi)] at h2
    have := of_decide_eq_true h2
    rwa [e1] at this
  · intro h
    have h1 : ∀ a ∈ List.range s.2.2.2.length, lvAt s a = true := by
      intro a ha
      have ha := List.mem_range.1 ha
      rw [lvAt_some (List.getElem?_eq_getElem ha)]
      exact decide_eq_true (h _ (List.getElem_mem ha))
    rw [List.filter_eq_self.2 h1, e]
/-! ### what is written -/
end Go.Proofs.YthjnbidgliejkaaGreat
