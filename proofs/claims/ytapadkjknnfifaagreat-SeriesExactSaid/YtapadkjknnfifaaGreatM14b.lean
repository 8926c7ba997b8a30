/-
  Plain laws of three tiers, second part: what they have of events that follow.
-/
import Derived.Test.YtapadkjknnfifaaGreatM14
namespace Go.Plim
set_option linter.unusedVariables false
/-- the events of windows ahead of a time's -/
def below (w : Int) (l : List Ev) (t : Int) : List Ev := l.filter fun e => decide (e.1 / w < t / w)
theorem below_foll {w : Int} {l : List Ev} (h : Foll l) (t : Int) : Foll (below w l t) := h.sub List.filter_sublist
theorem below_all {w : Int} {l : List Ev} {t : Int} (h : ∀ e ∈ l, e.1 / w < t / w) : below w l t = l := by
  unfold below
  exact List.filter_eq_self.2 fun e he => by simpa using h e he
theorem below_congr {w : Int} {l : List Ev} {t u : Int} (h : t / w = u / w) : below w l t = below w l u := by unfold below; rw [h]
theorem below_snoc {w : Int} {l : List Ev} (e : Ev) : below w (l ++ [e]) e.1 = below w l e.1 := by
  unfold below
  rw [List.filter_append]
  simp
/-- of events that end with one of a time -/
structure EndsAt (l : List Ev) (t : Int) : Prop where
  foll : Foll l
  le : ∀ e ∈ l, e.1 ≤ t
  last : ∃ e ∈ l, e.1 = t
theorem EndsAt.wle {l : List Ev} {t : Int} (h : EndsAt l t) {w : Int} (hw : 1 ≤ w) : ∀ e ∈ l, e.1 / w ≤ t / w := fun e he => Int.ediv_le_ediv (by omega) (h.le e he)
theorem ends_split {l : List Ev} {t : Int} (h : EndsAt l t) {w : Int} (hw : 1 ≤ w) : l = below w l t ++ win w l (t / w) := by
  have key : ∀ (m : List Ev), (∀ e ∈ m, e.1 / w ≤ t / w) → m.Pairwise (fun a b => a.1 / w ≤ b.1 / w) → m = below w m t ++ win w m (t / w) := by
    intro m
    induction m with
    | nil => intro _ _; rfl
    | cons x m ih =>
      intro h1 h2
      rw [List.pairwise_cons] at h2
      have ih' := ih (fun e he => h1 e (by simp [he])) h2.2
      have hx := h1 x (by simp)
      unfold below win at *
      by_cases c : x.1 / w < t / w
      · rw [List.filter_cons_of_pos (by simpa using c), List.filter_cons_of_neg (by simp; omega), List.cons_append, ← ih']
      · have e0 : m.filter (fun e => decide (e.1 / w < t / w)) = [] := by
          rw [List.filter_eq_nil_iff]
          intro y hy
          have := h2.1 y hy
          simp; omega
        rw [List.filter_cons_of_neg (by simpa using c), List.filter_cons_of_pos (by simp; omega), e0, List.nil_append]
        rw [e0, List.nil_append] at ih'
        rw [← ih']
  exact key l (h.wle hw) (foll_wd hw h.foll)
theorem tput_tput (t : List Slo) (i : Int) (a b : Cel) : tput (tput t i a) i b = tput t i b := by
  unfold tput
  rw [List.length_set, List.set_set]
/-- a window's events, put together -/
theorem tierInv_block {t : List Slo} {w a : Int} {l : List Ev} (h : TierInv t w l) : ∀ (n : Nat) (B : List Ev), B.length = n + 1 → Foll (l ++ B) → (∀ e ∈ B, e.1 / w = a) →
    FitsP (cellOf (win w (l ++ B) a)) w a ∧ TierInv (tput t a (cellOf (win w (l ++ B) a))) w (l ++ B) := by
  intro n
  induction n with
  | zero =>
    intro B hB hf ha
    match B, hB with
    | [e], _ =>
      have he := ha e (by simp)
      have := tierInv_put h hf
      rw [he] at this
      rw [win_snoc, if_pos he]
      exact this
  | succ n ih =>
    intro B hB hf ha
    rcases List.eq_nil_or_concat B with rfl | ⟨B', e, rfl⟩
    · cases hB
    rw [List.concat_eq_append] at *
    have he := ha e (by simp)
    have hf' : Foll (l ++ B' ++ [e]) := by rw [List.append_assoc]; exact hf
    obtain ⟨h1, h2⟩ := ih B' (by simp at hB; exact hB) (foll_append.1 hf').1 (fun x hx => ha x (by simp [hx]))
    have := tierInv_put h2 hf'
    rw [he, tput_tput, List.append_assoc] at this
    rw [← List.append_assoc, win_snoc, if_pos he]
    rw [List.append_assoc]
    exact this
/-- the window of the last event is put whole -/
theorem tierInv_close {s : List Slo} {w : Int} {l : List Ev} {t : Int} (he : EndsAt l t) (h : TierInv s w (below w l t)) : FitsP (cellOf (win w l (t / w))) w (t / w) ∧ TierInv (tput s (t / w) (cellOf (win w l (t / w)))) w l := by
  have hw := h.ok.w0
  have hs := ends_split he hw
  obtain ⟨e, hel, het⟩ := he.last
  have hne : win w l (t / w) ≠ [] := fun k => by
    have : e ∈ win w l (t / w) := mem_win.2 ⟨hel, by rw [het]⟩
    rw [k] at this; cases this
  have hlen : (win w l (t / w)).length = ((win w l (t / w)).length - 1) + 1 := by have := List.length_pos_iff.2 hne; omega
  have := tierInv_block h _ (win w l (t / w)) hlen (by rw [← hs]; exact he.foll) (fun x hx => (mem_win.1 hx).2)
  rw [← hs] at this
  exact this
/-- windows of two tiers: the upper one's are so many of the lower one's -/
theorem ediv_mul_ediv {t a b : Int} (ha : 1 ≤ a) (hb : 1 ≤ b) (hm : b % a = 0) : t / a * a / b = t / b ∧ t / a / (b / a) = t / b := by
  have e : a * (b / a) = b := by have := Int.mul_ediv_add_emod b a; omega
  have h1 : t / a / (b / a) = t / b := by rw [Int.ediv_ediv_of_nonneg (by omega), e]
  refine ⟨?_, h1⟩
  rw [← h1]
  conv => lhs; rw [← e, Int.mul_comm (t / a) a]
  exact Int.mul_ediv_mul_of_pos _ _ (by omega)
theorem win_rng_up {l : List Ev} {a b i : Int} (ha : 1 ≤ a) (hb : 1 ≤ b) (hm : b % a = 0) : rng a l (i * (b / a)) ((i + 1) * (b / a)) = win b l i := by
  unfold rng win
  apply List.filter_congr
  intro e _
  have h1 := (ediv_mul_ediv (t := e.1) ha hb hm).2
  have hq : 1 ≤ b / a := by
    have e : a * (b / a) = b := by have := Int.mul_ediv_add_emod b a; omega
    rcases Int.lt_or_le 0 (b / a) with k | k
    · omega
    · have : a * (b / a) ≤ 0 := Int.mul_nonpos_of_nonneg_of_nonpos (by omega) k
      omega
  refine decide_eq_decide.2 ?_
  rw [← h1]
  generalize e.1 / a = x at *
  generalize b / a = q at *
  constructor
  · rintro ⟨h2, h3⟩
    have := Int.le_ediv_of_mul_le (show 0 < q by omega) h2
    have := Int.ediv_lt_of_lt_mul (show 0 < q by omega) h3
    omega
  · rintro rfl
    exact ⟨Int.ediv_mul_le _ (by omega), Int.lt_ediv_add_one_mul_self x (by omega)⟩
end Go.Plim
namespace Go.Proofs.YtapadkjknnfifaaGreat
open Go.Flat Go.Plim
/-- what three tiers have of events, at a time -/
structure FInv (c : Conf) (s : Trs) (l : List Ev) (t : Int) : Prop where
  ok : FoldOk c s
  i0 : TierInv s.1 c.2.1.1 (below c.2.1.1 l t)
  i1 : TierInv s.2.1 c.2.1.2.1 (below c.2.1.2.1 l t)
  i2 : TierInv s.2.2 c.2.1.2.2 (below c.2.1.2.2 l t)
theorem OkC.m02 {c : Conf} (h : OkC c) : c.2.1.2.2 % c.2.1.1 = 0 := by
  have h1 := Int.dvd_of_emod_eq_zero h.m1
  have h2 := Int.dvd_of_emod_eq_zero h.m2
  exact Int.emod_eq_zero_of_dvd (Int.dvd_trans h1 h2)
/-- the same window of the first tier is the same one of each -/
theorem same_win {c : Conf} (h : OkC c) {t u : Int} (e : t / c.2.1.1 = u / c.2.1.1) : t / c.2.1.2.1 = u / c.2.1.2.1 ∧ t / c.2.1.2.2 = u / c.2.1.2.2 := by
  have hr := h.rng
  rw [← (ediv_mul_ediv (t := t) hr.w0.1 hr.w1.1 h.m1).1, ← (ediv_mul_ediv (t := u) hr.w0.1 hr.w1.1 h.m1).1, ← (ediv_mul_ediv (t := t) hr.w0.1 hr.w2.1 h.m02).1, ← (ediv_mul_ediv (t := u) hr.w0.1 hr.w2.1 h.m02).1, e]
  exact ⟨rfl, rfl⟩
theorem same_win1 {c : Conf} (h : OkC c) {t u : Int} (e : t / c.2.1.2.1 = u / c.2.1.2.1) : t / c.2.1.2.2 = u / c.2.1.2.2 := by
  have hr := h.rng
  rw [← (ediv_mul_ediv (t := t) hr.w1.1 hr.w2.1 h.m2).1, ← (ediv_mul_ediv (t := u) hr.w1.1 hr.w2.1 h.m2).1, e]
theorem finv_stay {c : Conf} {s : Trs} {l : List Ev} {t : Int} (h : FInv c s l t) {e : Ev} (hw : t / c.2.1.1 = e.1 / c.2.1.1) : FInv c s (l ++ [e]) e.1 := by
  obtain ⟨h1, h2⟩ := same_win h.ok.cok hw
  refine ⟨h.ok, ?_, ?_, ?_⟩
  · rw [below_snoc, ← below_congr hw]; exact h.i0
  · rw [below_snoc, ← below_congr h1]; exact h.i1
  · rw [below_snoc, ← below_congr h2]; exact h.i2
theorem finv_snoc {c : Conf} {s : Trs} {l : List Ev} {e : Ev} (h : FInv c s l e.1) : FInv c s (l ++ [e]) e.1 := by
  refine ⟨h.ok, ?_, ?_, ?_⟩
  · rw [below_snoc]; exact h.i0
  · rw [below_snoc]; exact h.i1
  · rw [below_snoc]; exact h.i2
theorem win_small {w : Int} {l : List Ev} {t f n : Int} (he : EndsAt l t) (hw : 1 ≤ w) {i : Int} (h1 : t / w < i + f) (h2 : f ≤ n) : ∀ e ∈ l, e.1 / w < i + n := fun e hel => by
  have := he.wle hw e hel; omega
/-- the open window is closed, and whatever is over with it -/
theorem finv_close {c : Conf} {s : Trs} {l : List Ev} {t : Int} (h : FInv c s l t) (he : EndsAt l t) {u : Int} (hu : t < u) (hw : t / c.2.1.1 ≠ u / c.2.1.1) :
    FitsP (cellOf (win c.2.1.1 l (t / c.2.1.1))) c.2.1.1 (t / c.2.1.1) ∧
    FInv c (upw c (tput s.1 (t / c.2.1.1) (cellOf (win c.2.1.1 l (t / c.2.1.1))), s.2) (t / c.2.1.1) (u / c.2.1.1)) l u := by
  have hok := h.ok
  have hc := hok.cok
  have hr := hc.rng
  obtain ⟨hf0, k0⟩ := tierInv_close he h.i0
  have hlt : t / c.2.1.1 < u / c.2.1.1 := by
    have : t / c.2.1.1 ≤ u / c.2.1.1 := Int.ediv_le_ediv (by have := hr.w0; omega) (by omega)
    omega
  refine ⟨hf0, ?_⟩
  have s0ok : FoldOk c (tput s.1 (t / c.2.1.1) (cellOf (win c.2.1.1 l (t / c.2.1.1))), s.2) :=
    ⟨hc, by simpa [tput] using hok.n0, hok.n1, hok.n2, tput_ok hok.t0 hf0, hok.t1, hok.t2⟩
  generalize hs0 : tput s.1 (t / c.2.1.1) (cellOf (win c.2.1.1 l (t / c.2.1.1))) = a0 at *
  have b0 : below c.2.1.1 l u = l := below_all fun e hel => by have := he.wle hr.w0.1 e hel; omega
  have q1 := ediv_mul_ediv (t := t) hr.w0.1 hr.w1.1 hc.m1
  have q1u := ediv_mul_ediv (t := u) hr.w0.1 hr.w1.1 hc.m1
  have q2 := ediv_mul_ediv (t := t) hr.w0.1 hr.w2.1 hc.m02
  have q2u := ediv_mul_ediv (t := u) hr.w0.1 hr.w2.1 hc.m02
  have q12 := ediv_mul_ediv (t := t) hr.w1.1 hr.w2.1 hc.m2
  have ht0 : 0 ≤ t := by obtain ⟨e, hel, het⟩ := he.last; have := (he.foll.ok e hel).t0; omega
  -- the second tier
  have r1 : up1 c (a0, s.2) (t / c.2.1.1) (u / c.2.1.1) = (a0, (if t / c.2.1.2.1 = u / c.2.1.2.1 then s.2.1 else tput s.2.1 (t / c.2.1.2.1) (cellOf (win c.2.1.2.1 l (t / c.2.1.2.1))), s.2.2)) ∧
      (t / c.2.1.2.1 ≠ u / c.2.1.2.1 → TierInv (tput s.2.1 (t / c.2.1.2.1) (cellOf (win c.2.1.2.1 l (t / c.2.1.2.1)))) c.2.1.2.1 l) := by
    unfold up1
    rw [q1.1, q1u.1]
    by_cases k : t / c.2.1.2.1 = u / c.2.1.2.1
    · rw [if_pos k, if_pos k]; exact ⟨rfl, fun n => absurd k n⟩
    · obtain ⟨hf1, k1⟩ := tierInv_close he h.i1
      have hm : mk1 c (a0, s.2) (t / c.2.1.2.1) = (cellOf (win c.2.1.2.1 l (t / c.2.1.2.1)), 0) := by
        unfold mk1
        have e1 : 0 ≤ c.2.1.2.1 / c.2.1.1 := Int.ediv_nonneg (by have := hr.w1; omega) (by have := hr.w0; omega)
        have e0 : 0 ≤ t / c.2.1.2.1 := Int.ediv_nonneg ht0 (by have := hr.w1; omega)
        have hlen : ((a0 : List Slo).length : Int) = c.2.2.1.1 := s0ok.n0
        have hub : t / c.2.1.1 < t / c.2.1.2.1 * (c.2.1.2.1 / c.2.1.1) + c.2.1.2.1 / c.2.1.1 := by
          rw [← q1.2]
          have hp : 0 < c.2.1.2.1 / c.2.1.1 := by
            rcases Int.lt_or_le 0 (c.2.1.2.1 / c.2.1.1) with z | z
            · exact z
            · exfalso
              have e : c.2.1.1 * (c.2.1.2.1 / c.2.1.1) = c.2.1.2.1 := by have := Int.mul_ediv_add_emod c.2.1.2.1 c.2.1.1; have := hc.m1; omega
              have : c.2.1.2.1 / c.2.1.1 = 0 := by omega
              rw [this, Int.mul_zero] at e
              have := hr.w1; omega
          have := Int.lt_ediv_add_one_mul_self (t / c.2.1.1) hp
          rw [Int.add_mul, Int.one_mul] at this
          exact this
        have := tierInv_fold k0 he.foll (i := t / c.2.1.2.1 * (c.2.1.2.1 / c.2.1.1)) (k := (t / c.2.1.2.1 + 1) * (c.2.1.2.1 / c.2.1.1)) (Int.mul_nonneg e0 e1)
          (Int.mul_le_mul_of_nonneg_right (by omega) e1) (by rw [hlen]; exact win_small he hr.w0.1 hub hc.d1)
        rw [this, win_rng_up hr.w0.1 hr.w1.1 hc.m1]
      rw [if_neg k, if_neg k, hm, if_pos (And.intro rfl hf1)]
      exact ⟨rfl, fun _ => k1⟩
  -- the third tier
  have okc1 := up1_ok s0ok (t / c.2.1.1) (u / c.2.1.1)
  have okc2 := upw_ok s0ok (t / c.2.1.1) (u / c.2.1.1)
  have i1 : TierInv (if t / c.2.1.2.1 = u / c.2.1.2.1 then s.2.1 else tput s.2.1 (t / c.2.1.2.1) (cellOf (win c.2.1.2.1 l (t / c.2.1.2.1)))) c.2.1.2.1 (below c.2.1.2.1 l u) := by
    by_cases k : t / c.2.1.2.1 = u / c.2.1.2.1
    · rw [if_pos k, ← below_congr k]; exact h.i1
    · have : below c.2.1.2.1 l u = l := below_all fun e hel => by
        have := he.wle hr.w1.1 e hel
        have : t / c.2.1.2.1 ≤ u / c.2.1.2.1 := Int.ediv_le_ediv (by have := hr.w1; omega) (by omega)
        omega
      rw [if_neg k, this]; exact r1.2 k
  unfold upw at okc2 ⊢
  rw [r1.1] at okc1 okc2 ⊢
  generalize hs1 : (if t / c.2.1.2.1 = u / c.2.1.2.1 then s.2.1 else tput s.2.1 (t / c.2.1.2.1) (cellOf (win c.2.1.2.1 l (t / c.2.1.2.1)))) = a1 at *
  have r2 : up2 c (a0, (a1, s.2.2)) (t / c.2.1.1) (u / c.2.1.1) = (a0, (a1, if t / c.2.1.2.2 = u / c.2.1.2.2 then s.2.2 else tput s.2.2 (t / c.2.1.2.2) (cellOf (win c.2.1.2.2 l (t / c.2.1.2.2))))) ∧
      (t / c.2.1.2.2 ≠ u / c.2.1.2.2 → TierInv (tput s.2.2 (t / c.2.1.2.2) (cellOf (win c.2.1.2.2 l (t / c.2.1.2.2)))) c.2.1.2.2 l) := by
    unfold up2
    rw [q2.1, q2u.1]
    by_cases k : t / c.2.1.2.2 = u / c.2.1.2.2
    · rw [if_pos k, if_pos k]; exact ⟨rfl, fun n => absurd k n⟩
    · obtain ⟨hf2, k2⟩ := tierInv_close he h.i2
      have k1' : t / c.2.1.2.1 ≠ u / c.2.1.2.1 := fun z => k (same_win1 hc z)
      have hb1 : below c.2.1.2.1 l u = l := below_all fun e hel => by
        have := he.wle hr.w1.1 e hel
        have : t / c.2.1.2.1 ≤ u / c.2.1.2.1 := Int.ediv_le_ediv (by have := hr.w1; omega) (by omega)
        omega
      rw [hb1] at i1
      have hm : mk2 c (a0, (a1, s.2.2)) (t / c.2.1.2.2) = (cellOf (win c.2.1.2.2 l (t / c.2.1.2.2)), 0) := by
        unfold mk2
        have e1 : 0 ≤ c.2.1.2.2 / c.2.1.2.1 := Int.ediv_nonneg (by have := hr.w2; omega) (by have := hr.w1; omega)
        have e0 : 0 ≤ t / c.2.1.2.2 := Int.ediv_nonneg ht0 (by have := hr.w2; omega)
        have hlen : ((a1 : List Slo).length : Int) = c.2.2.1.2.1 := okc1.n1
        have hub : t / c.2.1.2.1 < t / c.2.1.2.2 * (c.2.1.2.2 / c.2.1.2.1) + c.2.1.2.2 / c.2.1.2.1 := by
          rw [← q12.2]
          have hp : 0 < c.2.1.2.2 / c.2.1.2.1 := by
            rcases Int.lt_or_le 0 (c.2.1.2.2 / c.2.1.2.1) with z | z
            · exact z
            · exfalso
              have e : c.2.1.2.1 * (c.2.1.2.2 / c.2.1.2.1) = c.2.1.2.2 := by have := Int.mul_ediv_add_emod c.2.1.2.2 c.2.1.2.1; have := hc.m2; omega
              have : c.2.1.2.2 / c.2.1.2.1 = 0 := by omega
              rw [this, Int.mul_zero] at e
              have := hr.w2; omega
          have := Int.lt_ediv_add_one_mul_self (t / c.2.1.2.1) hp
          rw [Int.add_mul, Int.one_mul] at this
          exact this
        have := tierInv_fold i1 he.foll (i := t / c.2.1.2.2 * (c.2.1.2.2 / c.2.1.2.1)) (k := (t / c.2.1.2.2 + 1) * (c.2.1.2.2 / c.2.1.2.1)) (Int.mul_nonneg e0 e1)
          (Int.mul_le_mul_of_nonneg_right (by omega) e1) (by rw [hlen]; exact win_small he hr.w1.1 hub hc.d2)
        rw [this, win_rng_up hr.w1.1 hr.w2.1 hc.m2]
      rw [if_neg k, if_neg k, hm, if_pos (And.intro rfl hf2)]
      exact ⟨rfl, fun _ => k2⟩
  rw [r2.1] at okc2 ⊢
  refine ⟨okc2, by rw [b0]; exact k0, i1, ?_⟩
  by_cases k : t / c.2.1.2.2 = u / c.2.1.2.2
  · simp only [if_pos k]
    rw [← below_congr k]; exact h.i2
  · have : below c.2.1.2.2 l u = l := below_all fun e hel => by
      have := he.wle hr.w2.1 e hel
      have : t / c.2.1.2.2 ≤ u / c.2.1.2.2 := Int.ediv_le_ediv (by have := hr.w2; omega) (by omega)
      omega
    simp only [if_neg k]
    rw [this]; exact r2.2 k
end Go.Proofs.YtapadkjknnfifaaGreat
