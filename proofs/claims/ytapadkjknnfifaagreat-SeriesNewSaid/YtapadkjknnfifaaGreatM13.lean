/-
  Plain laws of a tier's slots: no program in sight.
-/
import Derived.Test.YtapadkjknnfifaaGreatM08
namespace Go.Plim
set_option linter.unusedVariables false
abbrev Slo := Int × Cel
instance decSlo : DecidableEq Slo := @instDecidableEqProd _ _ _ decCel
def s0 : Slo := (0, z0)
/-- a cell that may be a window's -/
structure FitsP (c : Cel) (w i : Int) : Prop where
  n : CellN c
  w0 : 1 ≤ w
  w1 : w ≤ 1099511627776
  f : c.2.1.1 / w = i
  l : c.2.2.1.1 / w = i
theorem FitsP.i0 {c : Cel} {w i : Int} (h : FitsP c w i) : 0 ≤ i ∧ i < 35184372088832 := by
  obtain ⟨n, w0, w1, f, l⟩ := h
  have h1 := n.f.t0
  have h2 := n.f.t1
  have : 0 ≤ c.2.1.1 / w := Int.ediv_nonneg h1 (by omega)
  have : c.2.1.1 / w ≤ c.2.1.1 := Int.ediv_le_self _ h1
  omega
structure TierOk (l : List Slo) (w : Int) : Prop where
  l0 : 1 ≤ l.length
  l1 : l.length ≤ 4096
  w0 : 1 ≤ w
  w1 : w ≤ 1099511627776
  s : ∀ (j : Nat) s, l[j]? = some s → s = s0 ∨ (s.1 % (l.length : Int) = j ∧ FitsP s.2 w s.1)
/-- the slots that are not zero -/
def some13 (l : List Slo) : List Slo := l.filter fun s => decide (s ≠ s0)
/-- windows of slots that are not zero are unlike -/
theorem TierOk.apart {l : List Slo} {w : Int} (h : TierOk l w) : (some13 l).Pairwise fun a b => a.1 ≠ b.1 := by
  have key : ∀ (m : List Slo) (k : Nat), (∀ (j : Nat) s, m[j]? = some s → s = s0 ∨ s.1 % (l.length : Int) = ((k + j : Nat) : Int)) → (some13 m).Pairwise fun a b => a.1 ≠ b.1 := by
    intro m
    induction m with
    | nil => intro k _; exact .nil
    | cons x m ih =>
      intro k hm
      have ih' := ih (k + 1) (fun j s hs => by
        have := hm (j + 1) s hs
        rwa [show k + (j + 1) = k + 1 + j by omega] at this)
      unfold some13 at *
      by_cases hx : x = s0
      · rw [List.filter_cons_of_neg (by simp [hx])]; exact ih'
      · rw [List.filter_cons_of_pos (by simp [hx])]
        refine List.pairwise_cons.2 ⟨fun y hy => ?_, ih'⟩
        have hy' := List.mem_filter.1 hy
        obtain ⟨j, hj⟩ := List.getElem?_of_mem hy'.1
        have h1 := (hm 0 x rfl).resolve_left hx
        have h2 := (hm (j + 1) y hj).resolve_left (by simpa using hy'.2)
        intro e
        rw [e, h2] at h1
        omega
  exact key l 0 (fun j s hs => by
    rcases h.s j s hs with e | e
    · exact .inl e
    · exact .inr (by rw [e.1, Nat.zero_add]))
/-- in order -/
def tall (l : List Slo) : List Slo := (some13 l).mergeSort fun a b => decide (a.1 ≤ b.1)
/-- the cells of windows, in order -/
def within (l : List Slo) (i k : Int) : List Cel := ((tall l).filter fun s => decide (i ≤ s.1 ∧ s.1 < k)).map (·.2)
def tfold (l : List Slo) (i k : Int) : Cel × Int := if i < 0 ∨ k < i then (z0, 1) else allE z0 (within l i k)
end Go.Plim
