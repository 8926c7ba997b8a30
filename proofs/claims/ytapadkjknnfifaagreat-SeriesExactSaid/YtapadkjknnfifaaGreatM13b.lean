/-
  Plain laws of a tier's slots, second part: the cells of windows of events that follow.
-/
import Derived.Test.YtapadkjknnfifaaGreatM13
namespace Go.Plim
set_option linter.unusedVariables false
/-- the events of windows from i to ahead of k -/
def rng (w : Int) (l : List Ev) (i k : Int) : List Ev := l.filter fun e => decide (i ≤ e.1 / w ∧ e.1 / w < k)
/-- those of one window -/
def win (w : Int) (l : List Ev) (i : Int) : List Ev := l.filter fun e => decide (e.1 / w = i)
theorem win_rng (w : Int) (l : List Ev) (i : Int) : win w l i = rng w l i (i + 1) := by
  unfold win rng
  congr 1
  funext e
  exact decide_eq_decide.2 (by omega)
theorem rng_foll {w : Int} {l : List Ev} (h : Foll l) (i k : Int) : Foll (rng w l i k) := h.sub List.filter_sublist
theorem win_foll {w : Int} {l : List Ev} (h : Foll l) (i : Int) : Foll (win w l i) := h.sub List.filter_sublist
theorem wd_mono {w : Int} (hw : 1 ≤ w) {a b : Ev} (h : a.1 < b.1) : a.1 / w ≤ b.1 / w := Int.ediv_le_ediv (by omega) (by omega)
theorem foll_wd {w : Int} (hw : 1 ≤ w) {l : List Ev} (h : Foll l) : l.Pairwise fun a b => a.1 / w ≤ b.1 / w := h.inc.imp fun k => wd_mono hw k
theorem split_sorted (f : Ev → Int) {i a k : Int} (h1 : i ≤ a) (h2 : a ≤ k) : ∀ {l : List Ev}, l.Pairwise (fun x y => f x ≤ f y) →
    l.filter (fun e => decide (i ≤ f e ∧ f e < k)) = l.filter (fun e => decide (i ≤ f e ∧ f e < a)) ++ l.filter (fun e => decide (a ≤ f e ∧ f e < k)) := by
  intro l
  induction l with
  | nil => intro _; rfl
  | cons x l ih =>
    intro h
    rw [List.pairwise_cons] at h
    have ih' := ih h.2
    by_cases c1 : i ≤ f x ∧ f x < k
    · by_cases c2 : f x < a
      · rw [List.filter_cons_of_pos (by simpa using c1), List.filter_cons_of_pos (by simp; omega), List.filter_cons_of_neg (by simp; omega), ih']
        rfl
      · have e : l.filter (fun e => decide (i ≤ f e ∧ f e < a)) = [] := by
          rw [List.filter_eq_nil_iff]
          intro y hy
          have := h.1 y hy
          simp; omega
        rw [List.filter_cons_of_pos (by simpa using c1), List.filter_cons_of_neg (by simp; omega), List.filter_cons_of_pos (by simp; omega), ih', e]
        rfl
    · rw [List.filter_cons_of_neg (by simpa using c1), List.filter_cons_of_neg (by simp; omega), List.filter_cons_of_neg (by simp; omega), ih']
theorem rng_split {w : Int} (hw : 1 ≤ w) {l : List Ev} (h : Foll l) {i a k : Int} (h1 : i ≤ a) (h2 : a ≤ k) : rng w l i k = rng w l i a ++ rng w l a k :=
  split_sorted (fun e => e.1 / w) h1 h2 (foll_wd hw h)
theorem rng_empty {w : Int} {l : List Ev} {i k : Int} (h : ∀ e ∈ l, ¬ (i ≤ e.1 / w ∧ e.1 / w < k)) : rng w l i k = [] := by
  unfold rng
  rw [List.filter_eq_nil_iff]
  intro e he
  simpa using h e he
theorem mrgE_append {a b : List Ev} (h : Foll (a ++ b)) : mrgE (cellOf a) (cellOf b) = (cellOf (a ++ b), 0) := by
  obtain ⟨h1, h2, _⟩ := foll_append.1 h
  unfold mrgE
  rw [if_pos (And.intro (cellOf_ok h1) (cellOf_ok h2)), if_pos (cellOf_ahead h), cellOf_append h]
/-- slots in order that have the cells of their windows' events merge to that of all -/
theorem fold_cells {w : Int} (hw : 1 ≤ w) {l : List Ev} (h : Foll l) {i k : Int} : ∀ (L : List Slo) (lo : Int), Up L → (∀ s ∈ L, s.2 = cellOf (win w l s.1) ∧ lo ≤ s.1 ∧ s.1 < k) → i ≤ lo → lo ≤ k →
    (∀ e ∈ l, lo ≤ e.1 / w → e.1 / w < k → ∃ s ∈ L, s.1 = e.1 / w) → allE (cellOf (rng w l i lo)) (L.map (·.2)) = (cellOf (rng w l i k), 0) := by
  intro L
  induction L with
  | nil =>
    intro lo _ _ h1 h2 h3
    have e : rng w l lo k = [] := rng_empty fun e he hc => by
      obtain ⟨s, hs, _⟩ := h3 e he hc.1 hc.2
      cases hs
    rw [rng_split hw h h1 h2, e, List.append_nil]
    rfl
  | cons s L ih =>
    intro lo hu hs h1 h2 h3
    unfold Up at hu
    rw [List.pairwise_cons] at hu
    obtain ⟨e1, e2, e3⟩ := hs s (by simp)
    have gap : rng w l lo s.1 = [] := rng_empty fun e he hc => by
      obtain ⟨s', hs', he'⟩ := h3 e he hc.1 (by omega)
      rcases List.mem_cons.1 hs' with rfl | hs'
      · omega
      · have := hu.1 s' hs'; omega
    have ea : rng w l i lo = rng w l i s.1 := by rw [rng_split hw h h1 e2, gap, List.append_nil]
    have eb : rng w l i (s.1 + 1) = rng w l i s.1 ++ win w l s.1 := by rw [win_rng, rng_split hw h (show i ≤ s.1 by omega) (show s.1 ≤ s.1 + 1 by omega)]
    have hf : Foll (rng w l i s.1 ++ win w l s.1) := by rw [← eb]; exact rng_foll h _ _
    simp only [List.map_cons, allE]
    rw [ea, e1, mrgE_append hf, if_pos rfl, ← eb]
    refine ih (s.1 + 1) hu.2 (fun s' hs' => ?_) (by omega) (by omega) (fun e he c1 c2 => ?_)
    · obtain ⟨f1, _, f3⟩ := hs s' (by simp [hs'])
      have := hu.1 s' hs'
      exact ⟨f1, by omega, f3⟩
    · obtain ⟨s', hs', he'⟩ := h3 e he (by omega) c2
      rcases List.mem_cons.1 hs' with rfl | hs'
      · omega
      · exact ⟨s', hs', he'⟩
theorem mem_tall_iff {l : List Slo} {w : Int} (h : TierOk l w) {s : Slo} : s ∈ tall l ↔ s ≠ s0 ∧ l[(s.1 % (l.length : Int)).toNat]? = some s := by
  constructor
  · intro hs; exact ⟨(mem_tall.1 hs).2, (tall_fits h hs).2⟩
  · rintro ⟨h1, h2⟩; exact mem_tall.2 ⟨List.mem_of_getElem? h2, h1⟩
theorem tall_N {l : List Slo} {w : Int} (h : TierOk l w) {s : Slo} (hs : s ∈ tall l) : CellN s.2 := (tall_fits h hs).1.n
theorem rest_ne {a b n : Int} (hn : 1 ≤ n) (h1 : a < b) (h2 : b < a + n) : a % n ≠ b % n := by
  intro e
  have : (b - a) % n = 0 := by rw [Int.sub_emod, e]; simp
  have h3 : (b - a) % n = b - a := Int.emod_eq_of_lt (by omega) (by omega)
  omega
theorem win_snoc (w : Int) (l : List Ev) (e : Ev) (i : Int) : win w (l ++ [e]) i = if e.1 / w = i then win w l i ++ [e] else win w l i := by
  unfold win
  rw [List.filter_append]
  by_cases h : e.1 / w = i
  · simp [h]
  · simp [h]
theorem mem_win {w : Int} {l : List Ev} {i : Int} {e : Ev} : e ∈ win w l i ↔ e ∈ l ∧ e.1 / w = i := by simp [win]
/-- what a tier has of events -/
structure TierInv (t : List Slo) (w : Int) (l : List Ev) : Prop where
  ok : TierOk t w
  cells : ∀ s ∈ tall t, s.2 = cellOf (win w l s.1)
  kept : ∀ i, (∃ e ∈ l, e.1 / w = i) → (∀ e ∈ l, e.1 / w < i + (t.length : Int)) → (i, cellOf (win w l i)) ∈ tall t
theorem tierInv_nil {n : Nat} {w : Int} (h0 : 1 ≤ n) (h1 : n ≤ 4096) (w0 : 1 ≤ w) (w1 : w ≤ 1099511627776) : TierInv (List.replicate n s0) w [] := by
  have all : ∀ (j : Nat) s, (List.replicate n s0)[j]? = some s → s = s0 := fun j s hs => List.eq_of_mem_replicate (List.mem_of_getElem? hs)
  refine ⟨⟨by simpa using h0, by simpa using h1, w0, w1, fun j s hs => .inl (all j s hs)⟩, fun s hs => ?_, fun i ⟨e, he, _⟩ => by cases he⟩
  have := mem_tall.1 hs
  obtain ⟨j, hj⟩ := List.getElem?_of_mem this.1
  exact absurd (all j s hj) this.2
theorem cellOf_fits {w i : Int} {l : List Ev} (h : Foll l) (hn : l ≠ []) (hi : ∀ e ∈ l, e.1 / w = i) (w0 : 1 ≤ w) (w1 : w ≤ 1099511627776) : FitsP (cellOf l) w i := by
  have hs := cellOf_N h hn
  exact ⟨hs.n, w0, w1, hi _ (List.mem_of_head? hs.first), hi _ (List.mem_of_getLast? hs.last)⟩
theorem tput_len (t : List Slo) (i : Int) (c : Cel) : (tput t i c).length = t.length := by simp [tput]
theorem tierInv_put {t : List Slo} {w : Int} {l : List Ev} {e : Ev} (h : TierInv t w l) (hl : Foll (l ++ [e])) : FitsP (cellOf (win w l (e.1 / w) ++ [e])) w (e.1 / w) ∧ TierInv (tput t (e.1 / w) (cellOf (win w l (e.1 / w) ++ [e]))) w (l ++ [e]) := by
  obtain ⟨hok, hcells, hkept⟩ := h
  have w0 := hok.w0
  have hl' := (foll_append.1 hl).1
  have hlt : ∀ x ∈ l, x.1 < e.1 := fun x hx => (foll_append.1 hl).2.2 x hx e (by simp)
  have hle : ∀ x ∈ l, x.1 / w ≤ e.1 / w := fun x hx => wd_mono w0 (hlt x hx)
  have ews : win w (l ++ [e]) (e.1 / w) = win w l (e.1 / w) ++ [e] := by rw [win_snoc, if_pos rfl]
  have hwf : Foll (win w l (e.1 / w) ++ [e]) := by rw [← ews]; exact win_foll hl _
  have hfit : FitsP (cellOf (win w l (e.1 / w) ++ [e])) w (e.1 / w) := by
    refine cellOf_fits hwf (by simp) (fun x hx => ?_) w0 hok.w1
    rcases List.mem_append.1 hx with hx | hx
    · exact (mem_win.1 hx).2
    · simp at hx; rw [hx]
  generalize hi : e.1 / w = i at *
  generalize hc : cellOf (win w l i ++ [e]) = c at *
  have hok' := tput_ok hok hfit
  have hlen := tput_len t i c
  have hn := hok.l0
  have i0 := hfit.i0
  have hm := Int.emod_nonneg i (show (t.length : Int) ≠ 0 by omega)
  have hm' := Int.emod_lt_of_pos i (show (0 : Int) < t.length by omega)
  have cne : (i, c) ≠ s0 := fun k => hfit.n.ne (congrArg Prod.snd k)
  have here : (tput t i c)[(i % (t.length : Int)).toNat]? = some (i, c) := by
    unfold tput
    rw [List.getElem?_set, if_pos rfl, if_pos (by omega)]
  have there : ∀ j : Nat, j ≠ (i % (t.length : Int)).toNat → (tput t i c)[j]? = t[j]? := fun j hj => by
    unfold tput
    rw [List.getElem?_set, if_neg (Ne.symm hj)]
  refine ⟨hfit, hok', fun s hs => ?_, fun j ⟨x, hx, hxj⟩ hall => ?_⟩
  · rw [mem_tall_iff hok', hlen] at hs
    obtain ⟨s1, s2⟩ := hs
    by_cases hj : (s.1 % (t.length : Int)).toNat = (i % (t.length : Int)).toNat
    · rw [hj, here] at s2
      injection s2 with s2
      subst s2
      rw [ews, hc]
    · rw [there _ hj] at s2
      have := hcells s ((mem_tall_iff hok).2 ⟨s1, s2⟩)
      rw [win_snoc, if_neg (fun k => hj (by rw [← k, hi])), this]
  · rw [hlen] at hall
    rw [mem_tall_iff hok', hlen]
    rcases List.mem_append.1 hx with hx | hx
    · by_cases hji : j = i
      · subst hji
        rw [ews, hc]
        exact ⟨cne, here⟩
      · have hxi := hle x hx
        have hil := hall e (by simp)
        have hjlt : j < i := by omega
        have := hkept j ⟨x, hx, hxj⟩ (fun y hy => hall y (by simp [hy]))
        rw [mem_tall_iff hok] at this
        rw [win_snoc, if_neg (by omega)]
        refine ⟨this.1, ?_⟩
        rw [there _ ?_]
        · exact this.2
        · intro k
          have k : (j % (t.length : Int)).toNat = (i % (t.length : Int)).toNat := k
          have hjm := Int.emod_nonneg j (show (t.length : Int) ≠ 0 by omega)
          exact rest_ne (n := (t.length : Int)) (by omega) hjlt (by omega) (by omega)
    · simp at hx
      subst hx
      rw [hi] at hxj
      subst hxj
      rw [ews, hc]
      exact ⟨cne, here⟩
/-- windows that are kept, merged -/
theorem tierInv_fold {t : List Slo} {w : Int} {l : List Ev} (h : TierInv t w l) (hl : Foll l) {i k : Int} (h0 : 0 ≤ i) (hik : i ≤ k) (hk : ∀ e ∈ l, e.1 / w < i + (t.length : Int)) : tfold t i k = (cellOf (rng w l i k), 0) := by
  unfold tfold
  rw [if_neg (by omega)]
  have hu : Up ((tall t).filter fun s => decide (i ≤ s.1 ∧ s.1 < k)) := (tall_up h.ok).sublist List.filter_sublist
  have := fold_cells (i := i) (k := k) h.ok.w0 hl ((tall t).filter fun s => decide (i ≤ s.1 ∧ s.1 < k)) i hu (fun s hs => ?_) (Int.le_refl _) hik (fun e he c1 c2 => ?_)
  · have e0 : rng w l i i = [] := rng_empty fun e _ => by omega
    rw [e0] at this
    exact this
  · obtain ⟨s1, s2⟩ := List.mem_filter.1 hs
    have s2 := of_decide_eq_true s2
    exact ⟨h.cells s s1, s2.1, s2.2⟩
  · have := h.kept (e.1 / w) ⟨e, he, rfl⟩ (fun x hx => by have := hk x hx; omega)
    exact ⟨_, List.mem_filter.2 ⟨this, by simp; omega⟩, rfl⟩
end Go.Plim
