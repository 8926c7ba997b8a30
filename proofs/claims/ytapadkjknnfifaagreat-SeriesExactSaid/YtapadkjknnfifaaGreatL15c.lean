/-
  The law SeriesAgree.
-/
import Derived.Test.YtapadkjknnfifaaGreatM15
import Derived.Test.YtapadkjknnfifaaGreatP15g
import Derived.Test.YtapadkjknnfifaaGreatPL15
namespace Go.Proofs.YtapadkjknnfifaaGreat
open Go.Flat Go.Plim
set_option linter.unusedVariables false
set_option linter.unusedSimpArgs false
theorem serInv_time {c : Conf} {s : Ser} {l : List Ev} (h : SerInv c s l) : (s.2.1 = -1 ∧ l = []) ∨ ((0 ≤ s.2.1 ∧ s.2.1 < 35184372088832) ∧ l ≠ []) := by
  rcases h.last with ⟨k1, k2⟩ | k
  · exact .inl ⟨k2, k1⟩
  · obtain ⟨x, hx, hxt⟩ := k.last
    have := k.foll.ok x hx
    exact .inr ⟨⟨by have := this.t0; omega, by have := this.t1; omega⟩, ends_ne k⟩
theorem gone_wrap {t w m : Int} (ht : 0 ≤ t ∧ t < 35184372088832) (hw : 1 ≤ w) (hm : 1 ≤ m ∧ m ≤ 4096) : IntKind.wrap .i64 (IntKind.wrap .i64 (Int.tdiv t w) - m) = t / w - m := by
  rw [quo_at ht hw]
  have : 0 ≤ t / w := Int.ediv_nonneg ht.1 (by omega)
  have : t / w ≤ t := Int.ediv_le_self _ ht.1
  rw [w64 (by omega) (by omega)]
/-- the label 'a' -/
def la : List Lab := [([97], [])]
theorem newA (c : Conf) : (newV c la).2 ≠ 0 ∨ (OkC c ∧ LabOk la ∧ newV c la = ((la, (-1, (r0w, (emp c, s0)))), 0)) := by
  unfold newV
  by_cases h : OkC c
  case neg => rw [if_neg h]; exact .inl (by decide)
  rw [if_pos h]
  by_cases h1 : LabOk la
  · rw [if_pos h1]; exact .inr ⟨h, h1, rfl⟩
  · rw [if_neg h1]; exact .inl (by decide)
theorem evs_wf {l : List Ev} (h : Wf (.slice tyEvent) l) : ∀ e ∈ l, EvW e := fun e he => ev_wf (h.2 e he)
end Go.Proofs.YtapadkjknnfifaaGreat
