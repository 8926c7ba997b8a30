/-
  Plain laws of a series: what it has of the events that were put.
-/
import Derived.Test.YtapadkjknnfifaaGreatM14c
import Derived.Test.YtapadkjknnfifaaGreatP15d
namespace Go.Proofs.YtapadkjknnfifaaGreat
open Go.Flat Go.Plim
set_option linter.unusedVariables false
set_option linter.unusedSimpArgs false
/-! ### raw events that are kept -/
def rawOf (room : Int) (l : List Ev) : Rw :=
  (if (l.length : Int) ≤ room then 0 else (l.length : Int) - room, (if (l.length : Int) ≤ room then 0 else ((l[l.length - room.toNat - 1]?).getD e0).1, l.drop (l.length - room.toNat)))
theorem rawOf_len {room : Int} (h : 1 ≤ room) (l : List Ev) : ((rawOf room l).2.2.length : Int) = if (l.length : Int) ≤ room then (l.length : Int) else room := by
  simp only [rawOf, List.length_drop]
  split <;> omega
theorem rawOf_next {room : Int} (h : 1 ≤ room) (l : List Ev) (e : Ev) : rawNext (rawOf room l) room e = rawOf room (l ++ [e]) := by
  have hlen := rawOf_len h l
  unfold rawNext
  by_cases h1 : (l.length : Int) < room
  · rw [if_pos (Int.le_of_lt h1)] at hlen
    rw [if_pos (by omega)]
    simp only [rawOf, List.length_append, List.length_cons, List.length_nil]
    rw [if_pos (Int.le_of_lt h1), if_pos (Int.le_of_lt h1), if_pos (by omega), if_pos (by omega), show l.length - room.toNat = 0 by omega, show l.length + (0 + 1) - room.toNat = 0 by omega]
    rfl
  · rw [if_neg (by rw [hlen]; split <;> omega)]
    obtain ⟨d, hd⟩ : ∃ d, d = l.length - room.toNat := ⟨_, rfl⟩
    have hdl : d < l.length := by omega
    have e1 : (l ++ [e]).length - room.toNat = d + 1 := by simp; omega
    have e2 : ¬ (((l ++ [e]).length : Nat) : Int) ≤ room := by simp; omega
    unfold rawOf
    rw [if_neg e2, if_neg e2, e1, show d + 1 - 1 = d by omega, ← hd, List.getElem?_append_left hdl, List.drop_append_of_le_length (by omega)]
    simp only [List.drop_drop, List.headD_eq_head?_getD, List.head?_drop]
    refine Prod.ext ?_ rfl
    simp only [List.length_append, List.length_cons, List.length_nil]
    split <;> omega
theorem rawOf_last {room : Int} (h : 1 ≤ room) (l : List Ev) : (rawOf room l).2.2.getLast? = l.getLast? := by
  simp only [rawOf, List.getLast?_drop]
  by_cases h0 : l = []
  · subst h0; simp
  · have : 0 < l.length := List.length_pos_iff.2 h0
    rw [if_neg (by omega)]
theorem rawOf_ok {room : Int} (h : 1 ≤ room ∧ room ≤ 4096) {l : List Ev} (hl : Foll l) (hL : l.length ≤ 1000000) : RawOk (rawOf room l) room := by
  have hlen := rawOf_len h.1 l
  refine ⟨h.1, h.2, by rw [hlen]; split <;> omega, ?_, ?_, ?_, ?_, ?_⟩
  · simp only [rawOf]; split <;> omega
  · simp only [rawOf]; split <;> omega
  · exact hl.sub (List.drop_sublist _ _)
  · simp only [rawOf]
    intro k
    split
    · rfl
    · rename_i h1; rw [if_neg h1] at k; omega
  · intro k
    simp only [rawOf] at k hlen ⊢
    by_cases h1 : (l.length : Int) ≤ room
    · rw [if_pos h1] at k; exact absurd rfl k
    rw [if_neg h1] at hlen ⊢
    obtain ⟨d, hd⟩ : ∃ d, l.length - room.toNat = d + 1 := ⟨l.length - room.toNat - 1, by omega⟩
    rw [hd, show d + 1 - 1 = d by omega]
    have hdl : d < l.length := by omega
    have hdl' : d + 1 < l.length := by omega
    rw [List.getElem?_eq_getElem hdl]
    refine ⟨by rw [← hlen, hd], ((hl.ok _ (List.getElem_mem hdl)).t0), fun x hx => ?_⟩
    rw [List.head?_drop, List.getElem?_eq_getElem hdl'] at hx
    have := List.pairwise_iff_getElem.1 hl.inc d (d + 1) hdl hdl' (by omega)
    simp at hx
    rw [← hx]; exact this
/-! ### the series -/
structure SerInv (c : Conf) (s : Ser) (l : List Ev) : Prop where
  lab : LabOk s.1
  len : l.length ≤ 1000000
  raw : s.2.2.1 = rawOf c.1 l
  opn : OpenInv c s.2.2.2.1 s.2.2.2.2 l
  last : (l = [] ∧ s.2.1 = -1) ∨ EndsAt l s.2.1
theorem SerInv.foll {c : Conf} {s : Ser} {l : List Ev} (h : SerInv c s l) : Foll l := by
  rcases h.last with ⟨rfl, _⟩ | h
  · exact Foll.nil
  · exact h.foll
theorem ends_getLast {l : List Ev} {t : Int} (h : EndsAt l t) : ∃ e, l.getLast? = some e ∧ e.1 = t := by
  obtain ⟨x, hx, hxt⟩ := h.last
  rcases List.eq_nil_or_concat l with rfl | ⟨p, y, rfl⟩
  · cases hx
  rw [List.concat_eq_append] at *
  have h1 := h.le y (by simp)
  refine ⟨y, by simp, ?_⟩
  rcases List.mem_append.1 hx with q | q
  · have := (foll_append.1 h.foll).2.2 x q y (by simp); omega
  · simp at q; rw [← q]; exact hxt
theorem ends_uniq {l : List Ev} {t u : Int} (h : EndsAt l t) (k : EndsAt l u) : t = u := by
  obtain ⟨e, h1, h2⟩ := ends_getLast h
  obtain ⟨e', k1, k2⟩ := ends_getLast k
  rw [h1] at k1; simp at k1; rw [← h2, ← k2, k1]
theorem ends_ne {l : List Ev} {t : Int} (h : EndsAt l t) : l ≠ [] := by
  obtain ⟨x, hx, _⟩ := h.last
  exact List.ne_nil_of_mem hx
/-- the open window, if there is one -/
theorem SerInv.at_ {c : Conf} {s : Ser} {l : List Ev} (h : SerInv c s l) (hl : l ≠ []) : EndsAt l s.2.1 ∧ FInv c s.2.2.2.1 l s.2.1 ∧ s.2.2.2.2 = (s.2.1 / c.2.1.1, cellOf (win c.2.1.1 l (s.2.1 / c.2.1.1))) := by
  have he := h.last.resolve_left fun k => hl k.1
  rcases h.opn with k | ⟨t, k1, k2, k3⟩
  · exact absurd k.1 hl
  · have := ends_uniq he k1
    subst this
    exact ⟨he, k2, k3⟩
theorem tall_none {t : List Slo} {w : Int} (h : TierInv t w []) : tall t = [] := by
  cases hc : tall t with
  | nil => rfl
  | cons x r =>
    have hx : x ∈ tall t := by rw [hc]; simp
    have h1 := h.cells x hx
    have := (tall_fits h.ok hx).1.n.n1
    rw [h1] at this
    simp [win, cellOf, z0] at this
theorem behind_below {t : List Slo} {w u : Int} {l : List Ev} (h : TierInv t w (below w l u)) (hl : Foll l) : NoBehind t (u / w) := by
  rw [noBehind_iff h.ok]
  intro x hx
  have h1 := h.cells x hx
  have hn := (tall_fits h.ok hx).1.n
  have hne : win w (below w l u) x.1 ≠ [] := fun k => by
    rw [k] at h1
    exact hn.ne h1
  obtain ⟨e, he⟩ := List.exists_mem_of_ne_nil _ hne
  obtain ⟨k1, k2⟩ := mem_win.1 he
  have := of_decide_eq_true (List.mem_filter.1 k1).2
  omega
theorem cellOf_lastT {w T : Int} {l : List Ev} (he : EndsAt l T) : (cellOf (win w l (T / w))).2.2.1.1 = T := by
  obtain ⟨x, hx, hxt⟩ := he.last
  have hm : x ∈ win w l (T / w) := mem_win.2 ⟨hx, by rw [hxt]⟩
  have hw := win_foll (w := w) he.foll (T / w)
  have hh := cellOf_N hw (List.ne_nil_of_mem hm)
  have ew : EndsAt (win w l (T / w)) T := ⟨hw, fun y hy => he.le y (mem_win.1 hy).1, x, hm, hxt⟩
  obtain ⟨e, k1, k2⟩ := ends_getLast ew
  have := hh.last
  rw [k1] at this
  simp at this
  rw [← this, k2]
theorem serInv_ok {c : Conf} {s : Ser} {l : List Ev} (h : SerInv c s l) : SerOk c s := by
  have hf := h.opn.fold
  have hr := hf.cok.rng
  have hraw : RawOk s.2.2.1 c.1 := by rw [h.raw]; exact rawOf_ok hr.raw h.foll h.len
  refine ⟨hf, h.lab, hraw, ?_⟩
  by_cases hl : l = []
  · subst hl
    refine .inl ?_
    have hlast := h.last.resolve_right fun k => ends_ne k rfl
    rcases h.opn with ⟨_, k1, k2⟩ | ⟨t, k1, _⟩
    · have := k2 0
      exact ⟨hlast.2, by rw [h.raw]; simp [rawOf], k1, (noBehind0 this.ok.t0).2 (tall_none this.i0), (noBehind0 this.ok.t1).2 (tall_none this.i1), (noBehind0 this.ok.t2).2 (tall_none this.i2)⟩
    · exact absurd rfl (ends_ne k1)
  · obtain ⟨he, hi, ho⟩ := h.at_ hl
    obtain ⟨x, hx, hxt⟩ := he.last
    have := (he.foll.ok x hx).t0
    refine .inr ⟨by omega, ?_, ?_, ?_, behind_below hi.i0 he.foll, behind_below hi.i1 he.foll, behind_below hi.i2 he.foll⟩
    · rw [h.raw, rawOf_last hr.raw.1]; exact ends_getLast he
    · rw [ho]; exact cellOf_lastT he
    · rw [ho]; exact (tierInv_close he hi.i0).1
theorem serInv_w {c : Conf} {s : Ser} {l : List Ev} (h : SerInv c s l) : SerW s := by
  have hok := serInv_ok h
  refine ⟨?_, fun e he => EvW.of (hok.raw.f.ok e he), hok.fold.w, ?_⟩
  · by_cases hn : s.2.1 = -1
    · rw [hn]; unfold I64; omega
    · have := serOk_at hok hn; unfold I64; omega
  · rcases h.opn with ⟨_, k, _⟩ | ⟨t, he, hi, ho⟩
    · rw [k]; exact slow_s0
    · obtain ⟨x, hx, hxt⟩ := he.last
      have hxo := he.foll.ok x hx
      have := quo_ev_range hxo hi.ok.cok.rng.w0.1
      rw [hxt] at this
      rw [ho]
      exact ⟨by unfold I64; simp only; omega, .of (cellOf_ok (win_foll he.foll _))⟩
theorem serInv_next {c : Conf} {s : Ser} {l : List Ev} {e : Ev} (h : SerInv c s l) (hf : Foll (l ++ [e])) (hL : l.length < 1000000) : ∃ s', putE c s e = (s', 0) ∧ SerInv c s' (l ++ [e]) := by
  have hok := serInv_ok h
  have hr := hok.fold.cok.rng
  have hoe := hf.ok e (by simp)
  have hlt : s.2.1 < e.1 := by
    rcases h.last with ⟨_, k⟩ | k
    · have := hoe.t0; omega
    · obtain ⟨x, hx, hxt⟩ := k.last
      have := (foll_append.1 hf).2.2 x hx e (by simp); omega
  have hraw : rawPut s.2.2.1 c.1 e = (rawOf c.1 (l ++ [e]), 0) := by
    unfold rawPut
    rw [if_pos ⟨hok.raw, hoe⟩, if_pos, if_neg, h.raw, rawOf_next hr.raw.1]
    · rw [h.raw]
      intro k
      have := k.2
      simp only [rawOf] at this
      split at this <;> omega
    · intro q hq
      rw [h.raw, rawOf_last hr.raw.1] at hq
      exact (foll_append.1 hf).2.2 q (List.mem_of_getLast? hq) e (by simp)
  have hT : TurnS s (e.1 / c.2.1.1) ↔ Turn s.2.2.2.2 (e.1 / c.2.1.1) := by
    unfold TurnS Turn
    have h0 : 0 ≤ s.2.2.2.2.2.1 := by
      rcases h.opn with ⟨_, k, _⟩ | ⟨t, he, hi, ho⟩
      · rw [k]; decide
      · rw [ho]; exact (cellOf_ok (win_foll he.foll _)).count.2
    refine ⟨fun ⟨k1, k2⟩ => ⟨?_, k2⟩, fun ⟨k1, k2⟩ => ⟨fun k => ?_, k2⟩⟩
    · have : s.2.2.2.2.2.1 ≠ 0 := fun k => k1 ((open_zero hok).1 k)
      omega
    · have := (open_zero hok).2 k; omega
  have hend : EndsAt (l ++ [e]) e.1 := ends_snoc hf
  have hlen : (l ++ [e]).length ≤ 1000000 := by simp; omega
  unfold putE
  rw [if_pos ⟨hok, hoe⟩, if_neg (by omega), hraw]
  by_cases ht : Turn s.2.2.2.2 (e.1 / c.2.1.1)
  · obtain ⟨s', h1, h2, h3⟩ := openInv_turn h.opn hf ht
    have htd : turned c s (e.1 / c.2.1.1) = ((s', s0), 0) := by
      unfold turned
      rw [if_pos (hT.2 ht), h1, if_pos rfl]
    have h2' : mrgE s0.2 (evCell e) = (evCell e, 0) := h2
    rw [htd, if_neg (nn rfl), if_neg (nn rfl), h2', if_neg (nn rfl)]
    exact ⟨_, rfl, h.lab, hlen, rfl, h3, .inr hend⟩
  · obtain ⟨h1, h2, h3⟩ := openInv_stay h.opn hf ht
    have htd : turned c s (e.1 / c.2.1.1) = ((s.2.2.2.1, s.2.2.2.2), 0) := by
      unfold turned
      rw [if_neg (fun k => ht (hT.1 k))]
    rw [htd, if_neg (nn rfl), if_neg (nn rfl), if_neg (nn h2)]
    exact ⟨_, rfl, h.lab, hlen, rfl, h3, .inr hend⟩
/-! ### what is told -/
theorem open_merge {t : List Slo} {w T i j : Int} {l : List Ev} (h : TierInv t w (below w l T)) (he : EndsAt l T) (h0 : 0 ≤ i) (hi : i ≤ T / w) (hj : T / w ≤ j) (hk : T / w ≤ i + (t.length : Int)) :
    mrgE (tfold t i j).1 (cellOf (win w l (T / w))) = (cellOf (rng w l i (T / w + 1)), 0) := by
  have hw := h.ok.w0
  have hb := below_foll (w := w) he.foll T
  rw [tierInv_fold h hb h0 (by omega) (fun e hel => by have := of_decide_eq_true (List.mem_filter.1 hel).2; omega)]
  have e1 : rng w (below w l T) i j = rng w l i (T / w) := by
    unfold rng below
    rw [List.filter_filter]
    refine List.filter_congr fun e hel => ?_
    rw [Bool.eq_iff_iff]; simp; omega
  have e2 : win w l (T / w) = rng w l (T / w) (T / w + 1) := win_rng w l _
  rw [e1, e2]
  have hs := rng_split hw he.foll (i := i) (a := T / w) (k := T / w + 1) hi (by omega)
  rw [hs]
  exact mrgE_append (by rw [← hs]; exact rng_foll he.foll _ _)
theorem rng_all {w T i j : Int} {l : List Ev} (he : EndsAt l T) (hw : 1 ≤ w) (hj : T / w < j) : rng w l i j = rng w l i (T / w + 1) := by
  unfold rng
  refine List.filter_congr fun e hel => ?_
  have := he.wle hw e hel
  rw [Bool.eq_iff_iff]; simp; omega
theorem range_gen {t : List Slo} {w T i j : Int} {l : List Ev} {ok : Prop} [Decidable ok] (hok : ok) (h : TierInv t w (below w l T)) (he : EndsAt l T) (h0 : 0 ≤ i) (hij : i ≤ j) (hk : T / w < i + (t.length : Int)) :
    rangeV ok i j T w t (cellOf (win w l (T / w)), 0) = (cellOf (rng w l i j), 0) := by
  have hw := h.ok.w0
  have hb := below_foll (w := w) he.foll T
  obtain ⟨x, hx, hxt⟩ := he.last
  have hx0 := (he.foll.ok x hx).t0
  unfold rangeV
  rw [if_pos hok, if_neg (by omega), if_neg (by omega), if_neg (by omega)]
  have hfold := tierInv_fold h hb h0 hij (fun e hel => by have := of_decide_eq_true (List.mem_filter.1 hel).2; omega)
  by_cases h1 : T / w < i
  · rw [if_pos h1, hfold]
    have e1 : rng w (below w l T) i j = [] := rng_empty fun e hel => by have := of_decide_eq_true (List.mem_filter.1 hel).2; omega
    have e2 : rng w l i j = [] := rng_empty fun e hel => by have := he.wle hw e hel; omega
    rw [e1, e2]
  rw [if_neg h1]
  by_cases h2 : j ≤ T / w
  · rw [if_pos h2, hfold]
    have e1 : rng w (below w l T) i j = rng w l i j := by
      unfold rng below
      rw [List.filter_filter]
      refine List.filter_congr fun e hel => ?_
      rw [Bool.eq_iff_iff]; simp; omega
    rw [e1]
  rw [if_neg h2, if_neg (nn rfl), open_merge h he h0 (by omega) (by omega) (by omega), rng_all (j := j) he hw (by omega)]
theorem factor_pos {a b : Int} (ha : 1 ≤ a) (hb : 1 ≤ b) (hm : b % a = 0) : 0 < b / a := by
  rcases Int.lt_or_le 0 (b / a) with z | z
  · exact z
  · exfalso
    have e : a * (b / a) = b := by have := Int.mul_ediv_add_emod b a; omega
    have : a * (b / a) ≤ a * 0 := Int.mul_le_mul_of_nonneg_left z (by omega)
    omega
/-- the window that is open, of the next tier -/
theorem open_up {t : List Slo} {a b T : Int} {l : List Ev} (h : TierInv t a (below a l T)) (he : EndsAt l T) (ha : 1 ≤ a) (hb : 1 ≤ b) (hm : b % a = 0) (hd : b / a ≤ (t.length : Int)) :
    mrgE (tfold t (T / b * (b / a)) (T / a)).1 (cellOf (win a l (T / a))) = (cellOf (win b l (T / b)), 0) := by
  obtain ⟨x, hx, hxt⟩ := he.last
  have hx0 := (he.foll.ok x hx).t0
  have hp := factor_pos ha hb hm
  have q := (ediv_mul_ediv (t := T) ha hb hm).2
  have hT : 0 ≤ T / b := Int.ediv_nonneg (by omega) (by omega)
  have u1 : T / a < T / b * (b / a) + b / a := by
    rw [← q]
    have := Int.lt_ediv_add_one_mul_self (T / a) hp
    rw [Int.add_mul, Int.one_mul] at this
    exact this
  have u0 : T / b * (b / a) ≤ T / a := by
    rw [← q]
    exact Int.ediv_mul_le _ (by omega)
  rw [open_merge h he (Int.mul_nonneg hT (by omega)) u0 (Int.le_refl _) (by omega)]
  rw [← rng_all (j := (T / b + 1) * (b / a)) he ha (by rw [Int.add_mul, Int.one_mul]; exact u1), win_rng_up ha hb hm]
theorem now1_val {c : Conf} {s : Ser} {l : List Ev} (h : SerInv c s l) (hl : l ≠ []) : now1 c s = (cellOf (win c.2.1.2.1 l (s.2.1 / c.2.1.2.1)), 0) := by
  obtain ⟨he, hi, ho⟩ := h.at_ hl
  have hr := hi.ok.cok.rng
  unfold now1
  rw [ho]
  exact open_up hi.i0 he hr.w0.1 hr.w1.1 hi.ok.cok.m1 (by rw [hi.ok.n0]; exact hi.ok.cok.d1)
theorem now2_val {c : Conf} {s : Ser} {l : List Ev} (h : SerInv c s l) (hl : l ≠ []) : now2 c s = (cellOf (win c.2.1.2.2 l (s.2.1 / c.2.1.2.2)), 0) := by
  obtain ⟨he, hi, ho⟩ := h.at_ hl
  have hr := hi.ok.cok.rng
  unfold now2
  rw [now1_val h hl, if_neg (nn rfl)]
  exact open_up hi.i1 he hr.w1.1 hr.w2.1 hi.ok.cok.m2 (by rw [hi.ok.n1]; exact hi.ok.cok.d2)
theorem inv_range0 {c : Conf} {s : Ser} {l : List Ev} (h : SerInv c s l) (hl : l ≠ []) {i j : Int} (h0 : 0 ≤ i) (hij : i ≤ j) (hk : s.2.1 / c.2.1.1 < i + c.2.2.1.1) :
    rangeV (SerOk c s) i j s.2.1 c.2.1.1 s.2.2.2.1.1 (s.2.2.2.2.2, 0) = (cellOf (rng c.2.1.1 l i j), 0) := by
  obtain ⟨he, hi, ho⟩ := h.at_ hl
  rw [ho]
  exact range_gen (serInv_ok h) hi.i0 he h0 hij (by rw [hi.ok.n0]; exact hk)
theorem inv_range1 {c : Conf} {s : Ser} {l : List Ev} (h : SerInv c s l) (hl : l ≠ []) {i j : Int} (h0 : 0 ≤ i) (hij : i ≤ j) (hk : s.2.1 / c.2.1.2.1 < i + c.2.2.1.2.1) :
    rangeV (SerOk c s) i j s.2.1 c.2.1.2.1 s.2.2.2.1.2.1 (now1 c s) = (cellOf (rng c.2.1.2.1 l i j), 0) := by
  obtain ⟨he, hi, ho⟩ := h.at_ hl
  rw [now1_val h hl]
  exact range_gen (serInv_ok h) hi.i1 he h0 hij (by rw [hi.ok.n1]; exact hk)
theorem inv_range2 {c : Conf} {s : Ser} {l : List Ev} (h : SerInv c s l) (hl : l ≠ []) {i j : Int} (h0 : 0 ≤ i) (hij : i ≤ j) (hk : s.2.1 / c.2.1.2.2 < i + c.2.2.1.2.2) :
    rangeV (SerOk c s) i j s.2.1 c.2.1.2.2 s.2.2.2.1.2.2 (now2 c s) = (cellOf (rng c.2.1.2.2 l i j), 0) := by
  obtain ⟨he, hi, ho⟩ := h.at_ hl
  rw [now2_val h hl]
  exact range_gen (serInv_ok h) hi.i2 he h0 hij (by rw [hi.ok.n2]; exact hk)
theorem new_inv {c : Conf} {l : List Lab} (h : OkC c) (hl : LabOk l) : SerInv c (l, (-1, (r0w, (emp c, s0)))) [] :=
  ⟨hl, by simp, by have := h.rng.raw; simp [rawOf, r0w]; omega, emp_inv h, .inl ⟨rfl, rfl⟩⟩
end Go.Proofs.YtapadkjknnfifaaGreat
