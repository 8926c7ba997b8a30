/-
  Plain laws of three tiers, third part: the open window with them.
-/
import Derived.Test.YtapadkjknnfifaaGreatM14b
import Derived.Test.YtapadkjknnfifaaGreatP14c
namespace Go.Proofs.YtapadkjknnfifaaGreat
open Go.Flat Go.Plim
set_option linter.unusedVariables false
/-- three tiers and the open slot, behind events -/
def OpenInv (c : Conf) (s : Trs) (o : Slo) (l : List Ev) : Prop :=
  (l = [] ∧ o = s0 ∧ ∀ t, FInv c s [] t) ∨ ∃ t, EndsAt l t ∧ FInv c s l t ∧ o = (t / c.2.1.1, cellOf (win c.2.1.1 l (t / c.2.1.1)))
theorem emp_inv {c : Conf} (h : OkC c) : OpenInv c (emp c) s0 [] := by
  have hr := h.rng
  have n0 := hr.n0; have n1 := hr.n1; have n2 := hr.n2
  refine .inl ⟨rfl, rfl, fun t => ?_⟩
  have e : emp c = (List.replicate c.2.2.1.1.toNat s0, (List.replicate c.2.2.1.2.1.toNat s0, List.replicate c.2.2.1.2.2.toNat s0)) := if_pos h
  have i0 : TierInv (List.replicate c.2.2.1.1.toNat s0) c.2.1.1 [] := tierInv_nil (by omega) (by omega) hr.w0.1 hr.w0.2
  have i1 : TierInv (List.replicate c.2.2.1.2.1.toNat s0) c.2.1.2.1 [] := tierInv_nil (by omega) (by omega) hr.w1.1 hr.w1.2
  have i2 : TierInv (List.replicate c.2.2.1.2.2.toNat s0) c.2.1.2.2 [] := tierInv_nil (by omega) (by omega) hr.w2.1 hr.w2.2
  rw [e]
  exact ⟨⟨h, by simp; omega, by simp; omega, by simp; omega, i0.ok, i1.ok, i2.ok⟩, i0, i1, i2⟩
theorem OpenInv.fold {c : Conf} {s : Trs} {o : Slo} {l : List Ev} (h : OpenInv c s o l) : FoldOk c s := by
  rcases h with ⟨_, _, h⟩ | ⟨t, _, h, _⟩
  · exact (h 0).ok
  · exact h.ok
theorem ends_snoc {l : List Ev} {e : Ev} (h : Foll (l ++ [e])) : EndsAt (l ++ [e]) e.1 :=
  ⟨h, fun x hx => by
    rcases List.mem_append.1 hx with hx | hx
    · have := (foll_append.1 h).2.2 x hx e (by simp); omega
    · simp at hx; rw [hx]; exact Int.le_refl _, ⟨e, by simp, rfl⟩⟩
theorem ev_begins {e : Ev} (h : EvOk e) {w : Int} (hw : 1 ≤ w) : Begins w (e.1 / w) := div_begins hw ⟨h.t0, by have := h.t1; omega⟩
/-- is another window open? -/
def Turn (o : Slo) (i : Int) : Prop := 0 < o.2.1 ∧ o.1 ≠ i
theorem openInv_turn {c : Conf} {s : Trs} {o : Slo} {l : List Ev} {e : Ev} (h : OpenInv c s o l) (hf : Foll (l ++ [e])) (ht : Turn o (e.1 / c.2.1.1)) :
    ∃ s', closeE c s o (e.1 / c.2.1.1) = (s', 0) ∧ mrgE z0 (evCell e) = (evCell e, 0) ∧ OpenInv c s' (e.1 / c.2.1.1, evCell e) (l ++ [e]) := by
  rcases h with ⟨_, ho, _⟩ | ⟨t, he, hi, ho⟩
  · have := ht.1; rw [ho] at this; simp [s0, z0] at this
  have hr := hi.ok.cok.rng
  have hoe := hf.ok e (by simp)
  have o1 : o.1 = t / c.2.1.1 := by rw [ho]
  have o2 : o.2 = cellOf (win c.2.1.1 l (t / c.2.1.1)) := by rw [ho]
  have hne : t / c.2.1.1 ≠ e.1 / c.2.1.1 := by rw [← o1]; exact ht.2
  obtain ⟨x, hx, hxt⟩ := he.last
  have htu : t < e.1 := by have := (foll_append.1 hf).2.2 x hx e (by simp); omega
  obtain ⟨hfit, hfi⟩ := finv_close hi he htu hne
  have hle : t / c.2.1.1 ≤ e.1 / c.2.1.1 := Int.ediv_le_ediv (by have := hr.w0; omega) (by omega)
  refine ⟨_, ?_, mrgE_z0 (evCell_N hoe).ok, .inr ⟨e.1, ends_snoc hf, finv_snoc hfi, ?_⟩⟩
  · unfold closeE
    rw [if_pos hi.ok, if_neg (fun k : o = s0 => by have := ht.1; rw [k] at this; simp [s0, z0] at this), o1, o2, if_pos hfit, if_neg hne, if_pos ⟨hle, ev_begins hoe hr.w0.1⟩]
  · rw [win_snoc, if_pos rfl]
    have : win c.2.1.1 l (e.1 / c.2.1.1) = [] := by
      unfold win
      rw [List.filter_eq_nil_iff]
      intro y hy
      have := he.wle hr.w0.1 y hy
      simp; omega
    rw [this, List.nil_append, cellOf_one]
theorem openInv_stay {c : Conf} {s : Trs} {o : Slo} {l : List Ev} {e : Ev} (h : OpenInv c s o l) (hf : Foll (l ++ [e])) (ht : ¬ Turn o (e.1 / c.2.1.1)) :
    CellOk o.2 ∧ (mrgE o.2 (evCell e)).2 = 0 ∧ OpenInv c s (e.1 / c.2.1.1, (mrgE o.2 (evCell e)).1) (l ++ [e]) := by
  have hoe := hf.ok e (by simp)
  rcases h with ⟨hl, ho, hi⟩ | ⟨t, he, hi, ho⟩
  · subst hl
    have e2 : o.2 = z0 := by rw [ho]; rfl
    rw [e2, mrgE_z0 (evCell_N hoe).ok]
    refine ⟨ok_z0, rfl, .inr ⟨e.1, ends_snoc hf, finv_snoc (hi e.1), ?_⟩⟩
    rw [win_snoc, if_pos rfl]
    have : win c.2.1.1 [] (e.1 / c.2.1.1) = [] := rfl
    rw [this, List.nil_append, cellOf_one]
  · have hr := hi.ok.cok.rng
    have o1 : o.1 = t / c.2.1.1 := by rw [ho]
    have o2 : o.2 = cellOf (win c.2.1.1 l (t / c.2.1.1)) := by rw [ho]
    obtain ⟨hf0, _⟩ := tierInv_close he hi.i0
    have hw : t / c.2.1.1 = e.1 / c.2.1.1 := by
      by_cases k : o.1 = e.1 / c.2.1.1
      · rw [← o1]; exact k
      · exact absurd ⟨by rw [o2]; have := hf0.n.n1; omega, k⟩ ht
    have hwf : Foll (win c.2.1.1 l (e.1 / c.2.1.1) ++ [e]) := by
      have := win_foll (w := c.2.1.1) hf (e.1 / c.2.1.1)
      rwa [win_snoc, if_pos rfl] at this
    have hm := (mrgE_snoc (foll_append.1 hwf).1 hoe).1 hwf
    rw [o2, hw, hm]
    refine ⟨cellOf_ok (foll_append.1 hwf).1, rfl, .inr ⟨e.1, ends_snoc hf, finv_stay hi hw, ?_⟩⟩
    rw [win_snoc, if_pos rfl]
end Go.Proofs.YtapadkjknnfifaaGreat
