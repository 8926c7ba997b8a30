/-
  Plain laws of a tier's slots: no program in sight.
-/
import Derived.Test.YthjnbidgliejkaaGreatM08
namespace Go.Plim
set_option linter.unusedVariables false
abbrev Slo := Int × Cel
instance decSlo : DecidableEq Slo := @instDecidableEqProd _ _ _ decCel
def s0 : Slo := (0, z0)
/-- a cell that may be a window's -/
structure FitsP (c : Cel) (w i : Int) : Prop where
  n : CellN c
  w0 : 1 ≤ w
  w1 : w ≤ 1099511627776
  f : c.2.1.1 / w = i
  l : c.2.2.1.1 / w = i
theorem FitsP.i0 {c : Cel} {w i : Int} (h : FitsP c w i) : 0 ≤ i ∧ i < 35184372088832 := by
  obtain ⟨n, w0, w1, f, l⟩ := h
  have h1 := n.f.t0
  have h2 := n.f.t1
  have : 0 ≤ c.2.1.1 / w := Int.ediv_nonneg h1 (by omega)
  have : c.2.1.1 / w ≤ c.2.1.1 := Int.ediv_le_self _ h1
  omega
structure TierOk (l : List Slo) (w : Int) : Prop where
  l0 : 1 ≤ l.length
  l1 : l.length ≤ 4096
  w0 : 1 ≤ w
  w1 : w ≤ 1099511627776
  s : ∀ (j : Nat) s, l[j]? = some s → s = s0 ∨ (s.1 % (l.length : Int) = j ∧ FitsP s.2 w s.1)
noncomputable instance (c w i) : Decidable (FitsP c w i) := Classical.propDecidable _
noncomputable instance (l w) : Decidable (TierOk l w) := Classical.propDecidable _
/-- strictly in order -/
def Up (l : List Slo) : Prop := l.Pairwise fun a b => a.1 < b.1
theorem up_perm : ∀ {a b : List Slo}, Up a → Up b → a.Perm b → a = b := by
  intro a
  induction a with
  | nil => intro b _ _ h; exact h.nil_eq
  | cons x a ih =>
    intro b ha hb h
    cases b with
    | nil => exact absurd h.length_eq (by simp)
    | cons y b =>
      unfold Up at *
      rw [List.pairwise_cons] at ha hb
      have hx : x ∈ y :: b := h.subset (by simp)
      have hy : y ∈ x :: a := h.symm.subset (by simp)
      have e : x = y := by
        rcases List.mem_cons.1 hx with e | hx
        · exact e
        · rcases List.mem_cons.1 hy with e | hy
          · exact e.symm
          · have := hb.1 x hx; have := ha.1 y hy; omega
      subst e
      rw [ih ha.2 hb.2 (List.Perm.cons_inv h)]
/-- the slots that are not zero -/
def some13 (l : List Slo) : List Slo := l.filter fun s => decide (s ≠ s0)
/-- windows of slots that are not zero are unlike -/
theorem TierOk.apart {l : List Slo} {w : Int} (h : TierOk l w) : (some13 l).Pairwise fun a b => a.1 ≠ b.1 := by
  have key : ∀ (m : List Slo) (k : Nat), (∀ (j : Nat) s, m[j]? = some s → s = s0 ∨ s.1 % (l.length : Int) = ((k + j : Nat) : Int)) → (some13 m).Pairwise fun a b => a.1 ≠ b.1 := by
    intro m
    induction m with
    | nil => intro k _; exact .nil
    | cons x m ih =>
      intro k hm
      have ih' := ih (k + 1) (fun j s hs => by
        have := hm (j + 1) s hs
        rwa [show k + (j + 1) = k + 1 + j by omega] at this)
      unfold some13 at *
      by_cases hx : x = s0
      · rw [List.filter_cons_of_neg (by simp [hx])]; exact ih'
      · rw [List.filter_cons_of_pos (by simp [hx])]
        refine List.pairwise_cons.2 ⟨fun y hy => ?_, ih'⟩
        have hy' := List.mem_filter.1 hy
        obtain ⟨j, hj⟩ := List.getElem?_of_mem hy'.1
        have h1 := (hm 0 x rfl).resolve_left hx
        have h2 := (hm (j + 1) y hj).resolve_left (by simpa using hy'.2)
        intro e
        rw [e, h2] at h1
        omega
  exact key l 0 (fun j s hs => by
    rcases h.s j s hs with e | e
    · exact .inl e
    · exact .inr (by rw [e.1, Nat.zero_add]))
/-- in order -/
def tall (l : List Slo) : List Slo := (some13 l).mergeSort fun a b => decide (a.1 ≤ b.1)
theorem tall_perm (l : List Slo) : (tall l).Perm (some13 l) := List.mergeSort_perm _ _
theorem up_of {l : List Slo} (h : l.Pairwise fun a b => a.1 ≤ b.1) (h' : l.Pairwise fun a b => a.1 ≠ b.1) : Up l := by
  have := h.and h'
  exact this.imp (fun {a b} k => by have := k.1; have := k.2; omega)
theorem tall_up {l : List Slo} {w : Int} (h : TierOk l w) : Up (tall l) := by
  refine up_of ?_ ((tall_perm l).pairwise_iff (fun {a b} k => k.symm) |>.2 h.apart)
  have := List.pairwise_mergeSort (le := fun a b : Slo => decide (a.1 ≤ b.1)) (fun a b c h1 h2 => by simp at *; omega) (fun a b => by simp; omega) (some13 l)
  exact this.imp (fun {a b} k => by simpa using k)
theorem tall_eq {l r : List Slo} {w : Int} (h : TierOk l w) (hp : r.Perm (some13 l)) (hs : r.Pairwise fun a b => a.1 ≤ b.1) : r = tall l := by
  refine up_perm (up_of hs (hp.pairwise_iff (fun {a b} k => k.symm) |>.2 h.apart)) (tall_up h) (hp.trans (tall_perm l).symm)
theorem mem_tall {l : List Slo} {s : Slo} : s ∈ tall l ↔ s ∈ l ∧ s ≠ s0 := by
  rw [(tall_perm l).mem_iff]; simp [some13]
theorem tall_fits {l : List Slo} {w : Int} (h : TierOk l w) {s : Slo} (hs : s ∈ tall l) : FitsP s.2 w s.1 ∧ l[(s.1 % (l.length : Int)).toNat]? = some s := by
  obtain ⟨h1, h2⟩ := mem_tall.1 hs
  obtain ⟨j, hj⟩ := List.getElem?_of_mem h1
  obtain ⟨h3, h4⟩ := (h.s j s hj).resolve_left h2
  refine ⟨h4, ?_⟩
  rw [h3]; exact hj
/-- the cells of windows, in order -/
def within (l : List Slo) (i k : Int) : List Cel := ((tall l).filter fun s => decide (i ≤ s.1 ∧ s.1 < k)).map (·.2)
def tfold (l : List Slo) (i k : Int) : Cel × Int := if i < 0 ∨ k < i then (z0, 1) else allE z0 (within l i k)
end Go.Plim
