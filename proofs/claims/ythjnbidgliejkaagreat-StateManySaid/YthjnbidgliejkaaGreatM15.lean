/-
  Plain laws of a series: what it has of the events that were put.
-/
import Derived.Test.YthjnbidgliejkaaGreatM14c
import Derived.Test.YthjnbidgliejkaaGreatP15d
namespace Go.Proofs.YthjnbidgliejkaaGreat
open Go.Flat Go.Plim
set_option linter.unusedVariables false
set_option linter.unusedSimpArgs false
/-! ### raw events that are kept -/
def rawOf (room : Int) (l : List Ev) : Rw :=
  (if (l.length : Int) ≤ room then 0 else (l.length : Int) - room, (if (l.length : Int) ≤ room then 0 else ((l[l.length - room.toNat - 1]?).getD e0).1, l.drop (l.length - room.toNat)))
/-! ### the series -/
structure SerInv (c : Conf) (s : Ser) (l : List Ev) : Prop where
  lab : LabOk s.1
  len : l.length ≤ 1000000
  raw : s.2.2.1 = rawOf c.1 l
  opn : OpenInv c s.2.2.2.1 s.2.2.2.2 l
  last : (l = [] ∧ s.2.1 = -1) ∨ EndsAt l s.2.1
theorem SerInv.foll {c : Conf} {s : Ser} {l : List Ev} (h : SerInv c s l) : Foll l := by
  rcases h.last with ⟨rfl, _⟩ | h
  · exact Foll.nil
  · exact h.foll
theorem ends_getLast {l : List Ev} {t : Int} (h : EndsAt l t) : ∃ e, l.getLast? = some e ∧ e.1 = t := by
  obtain ⟨x, hx, hxt⟩ := h.last
  rcases List.eq_nil_or_concat l with rfl | ⟨p, y, rfl⟩
  · cases hx
  rw [List.concat_eq_append] at *
  have h1 := h.le y (by simp)
  refine ⟨y, by simp, ?_⟩
  rcases List.mem_append.1 hx with q | q
  · have := (foll_append.1 h.foll).2.2 x q y (by simp); omega
  · simp at q; rw [← q]; exact hxt
theorem ends_uniq {l : List Ev} {t u : Int} (h : EndsAt l t) (k : EndsAt l u) : t = u := by
  obtain ⟨e, h1, h2⟩ := ends_getLast h
  obtain ⟨e', k1, k2⟩ := ends_getLast k
  rw [h1] at k1; simp at k1; rw [← h2, ← k2, k1]
/-- the open window, if there is one -/
theorem SerInv.at_ {c : Conf} {s : Ser} {l : List Ev} (h : SerInv c s l) (hl : l ≠ []) : EndsAt l s.2.1 ∧ FInv c s.2.2.2.1 l s.2.1 ∧ s.2.2.2.2 = (s.2.1 / c.2.1.1, cellOf (win c.2.1.1 l (s.2.1 / c.2.1.1))) := by
  have he := h.last.resolve_left fun k => hl k.1
  rcases h.opn with k | ⟨t, k1, k2, k3⟩
  · exact absurd k.1 hl
  · have := ends_uniq he k1
    subst this
    exact ⟨he, k2, k3⟩
/-! ### what is told -/
end Go.Proofs.YthjnbidgliejkaaGreat
