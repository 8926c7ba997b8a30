/-
  Cells of events, by the program.
-/
import Derived.Test.YtapadkjknnfifaaGreatP08c
namespace Go.Proofs.YtapadkjknnfifaaGreat
open Go.Flat Go.Plim
set_option linter.unusedVariables false
set_option linter.unusedSimpArgs false
theorem cell_of_l2 (n : Nat) (l0 : List Ev) (s2 : Cel) (l : List Ev) (hL : l.length ≤ 1000000000000) (hw : ∀ e ∈ l, EvW e) : ∀ (rest pre : List Ev) (f : Nat) (i len : Int), l = pre ++ rest → i = pre.length → len = l.length → rest.length < f →
    cell_Of_l2 (n + 1) f (l0, s2, l, len, i, ()) = some (if ∀ e ∈ rest, EvOk e then .inl (l0, s2, ()) else .inr (z0, 2)) := by
  intro rest
  induction rest with
  | nil =>
    intro pre f i len hl hi hn hf
    obtain ⟨f, rfl⟩ : ∃ g, f = g + 1 := ⟨f - 1, by simp at hf; omega⟩
    rw [cell_Of_l2_eq]
    simp [tif_dec, if_neg (idxe hl hi hn)]
  | cons x rest ih =>
    intro pre f i len hl hi hn hf
    obtain ⟨f, rfl⟩ : ∃ g, f = g + 1 := ⟨f - 1, by simp at hf; omega⟩
    rw [cell_Of_l2_eq]
    have hx : EvW x := hw x (by rw [hl]; simp)
    simp only [tif_dec, tif_not, if_pos (idx hl hi hn), at_mid hl hi, obind_some, event_check n hx, idxw hl hi hL, z02]
    by_cases ho : EvOk x
    · rw [if_pos ho, ih (pre ++ [x]) f (i + 1) len (idxl hl) (idxs hi) hn (by simp at hf; omega)]
      have e : (∀ e ∈ x :: rest, EvOk e) ↔ (∀ e ∈ rest, EvOk e) := by simp [ho]
      by_cases hr : ∀ e ∈ rest, EvOk e
      · rw [if_pos hr, if_pos (e.2 hr)]
      · rw [if_neg hr, if_neg (fun k => hr (e.1 k))]
    · have h2 : ¬ (∀ e ∈ x :: rest, EvOk e) := fun k => ho (k x (by simp))
      rw [if_neg ho, if_neg ho, if_neg h2]
      rfl
theorem cell_of_l10 (n : Nat) (s2 : Cel) (l : List Ev) (hL : l.length ≤ 1000000000000) (hok : ∀ e ∈ l, EvOk e) : ∀ (rest pre : List Ev) (f : Nat) (i len : Int), l = pre ++ rest → i = pre.length → len = l.length → rest.length < f → Foll pre →
    cell_Of_l10 (n + 6) f (s2, cellOf pre, l, len, i, ()) = some (if l.Pairwise (fun a b => a.1 < b.1) then .inl (s2, cellOf l, ()) else .inr (z0, 9)) := by
  intro rest
  induction rest with
  | nil =>
    intro pre f i len hl hi hn hf hp
    obtain ⟨f, rfl⟩ : ∃ g, f = g + 1 := ⟨f - 1, by simp at hf; omega⟩
    rw [cell_Of_l10_eq]
    simp only [tif_dec, if_neg (idxe hl hi hn)]
    rw [List.append_nil] at hl
    subst hl
    rw [if_pos hp.inc]
  | cons x rest ih =>
    intro pre f i len hl hi hn hf hp
    obtain ⟨f, rfl⟩ : ∃ g, f = g + 1 := ⟨f - 1, by simp at hf; omega⟩
    rw [cell_Of_l10_eq]
    have hx : EvOk x := hok x (by rw [hl]; simp)
    simp only [tif_dec, tif_not, if_pos (idx hl hi hn), at_mid hl hi, obind_some, cell_one_val, cell_merge n (.of (cellOf_ok hp)) (evCell_w (.of hx)), idxw hl hi hL]
    by_cases hf' : Foll (pre ++ [x])
    · rw [(mrgE_snoc hp hx).1 hf']
      simp only [if_pos trivial]
      exact ih (pre ++ [x]) f (i + 1) len (idxl hl) (idxs hi) hn (by simp at hf; omega) hf'
    · rw [(mrgE_snoc hp hx).2 hf']
      simp only
      have : ¬ (l.Pairwise fun a b => a.1 < b.1) := by
        intro k
        apply hf'
        rw [idxl hl] at k
        exact ⟨fun e he => hok e (by rw [idxl hl]; exact List.mem_append_left _ he), (List.pairwise_append.1 k).1⟩
      rw [if_neg (by decide), if_neg this]
      rfl
theorem cell_of (n : Nat) (l : List Ev) (hL : l.length ≤ 1000000000000) (hw : ∀ e ∈ l, EvW e) : cell_Of (n + 7) l = some (ofE l) := by
  have e1 := cell_of_l2 (n + 5) l z0 l hL hw l [] loopFuel 0 l.length rfl rfl rfl (by unfold loopFuel; omega)
  rw [cell_Of_eq]
  have e1' : cell_Of_l2 (n + 6) loopFuel (l, ((0 : Int), (((0 : Int), ((0 : Int), ((0 : Int), false))), (((0 : Int), ((0 : Int), ((0 : Int), false))), (((0 : Int), (0 : Int)), ((0 : Int), ((0 : Int), (0 : Int))))))), l, (l.length : Int), (0 : Int), ()) = _ := e1
  rw [e1']
  unfold ofE
  by_cases h : ∀ e ∈ l, EvOk e
  · rw [if_pos h, if_pos h]
    simp only [obind_some, selim_inl]
    have e2 := cell_of_l10 n z0 l hL h l [] loopFuel 0 l.length rfl rfl rfl (by unfold loopFuel; omega) Foll.nil
    have e2' : cell_Of_l10 (n + 6) loopFuel (z0, ((0 : Int), (((0 : Int), ((0 : Int), ((0 : Int), false))), (((0 : Int), ((0 : Int), ((0 : Int), false))), (((0 : Int), (0 : Int)), ((0 : Int), ((0 : Int), (0 : Int))))))), l, (l.length : Int), (0 : Int), ()) = _ := e2
    rw [e2']
    by_cases h' : l.Pairwise fun a b => a.1 < b.1
    · rw [if_pos h', if_pos h']; simp
    · rw [if_neg h', if_neg h']; simp
  · rw [if_neg h, if_neg h]; simp
end Go.Proofs.YtapadkjknnfifaaGreat
