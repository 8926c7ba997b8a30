/-
  The library's stable sort of slots, second part: merging in place, and the whole.
-/
import Derived.Test.YthjnbidgliejkaaGreatPSort
namespace Go.Proofs.YthjnbidgliejkaaGreat
open Go.Flat Go.Plim
set_option linter.unusedVariables false
set_option linter.unusedSimpArgs false
/-- all but the one at k are in order -/
def Exc (key : TSlot → Int) (d : List TSlot) (a b k : Nat) : Prop := ∀ p q x y, a ≤ p → p < q → q < b → p ≠ k → q ≠ k → d[p]? = some x → d[q]? = some y → key x ≤ key y
/-- where the one at k belongs -/
def Place (key : TSlot → Int) (d : List TSlot) (a b k i : Nat) (x : TSlot) : Prop :=
  (∀ p z, a ≤ p → p < i → p ≠ k → d[p]? = some z → key z ≤ key x) ∧ (∀ p z, i ≤ p → p < b → p ≠ k → d[p]? = some z → key x ≤ key z)
theorem exc_swap {key : TSlot → Int} {d : List TSlot} {a b k j : Nat} {x y : TSlot} (hj : j = k + 1 ∨ k = j + 1) (ja : a ≤ j) (jb : j < b) (hx : d[k]? = some x) (hy : d[j]? = some y) (h : Exc key d a b k) : Exc key ((d.set k y).set j x) a b j := by
  intro p q u v q1 q2 q3 p1 p2 hu hv
  rw [swap_get hx hy, if_neg p1] at hu
  rw [swap_get hx hy, if_neg p2] at hv
  by_cases ep : p = k
  · rw [if_pos ep] at hu
    rw [if_neg (by omega)] at hv
    injection hu with hu; subst hu
    exact h j q y v (by omega) (by omega) q3 (by omega) (by omega) hy hv
  · rw [if_neg ep] at hu
    by_cases eq : q = k
    · rw [if_pos eq] at hv
      injection hv with hv; subst hv
      exact h p j u y q1 (by omega) (by omega) (by omega) (by omega) hu hy
    · rw [if_neg eq] at hv
      exact h p q u v q1 q2 q3 ep eq hu hv
theorem exc_srt {key : TSlot → Int} {d : List TSlot} {a b k i : Nat} {x : TSlot} (h : Exc key d a b k) (hp : Place key d a b k i x) (hx : d[k]? = some x) (hk : k = i ∨ k + 1 = i) : Srt key d a b := by
  intro p q u v q1 q2 q3 hu hv
  by_cases ep : p = k
  · subst ep; rw [hx] at hu; injection hu with hu; subst hu
    exact hp.2 q v (by omega) q3 (by omega) hv
  · by_cases eq : q = k
    · subst eq; rw [hx] at hv; injection hv with hv; subst hv
      exact hp.1 p u q1 (by omega) ep hu
    · exact h p q u v q1 q2 q3 ep eq hu hv
theorem sym_l9 {key : TSlot → Int} (n : Nat) (a b i : Nat) (x : TSlot) : ∀ (c f k : Nat) (d : List TSlot), k + c + 1 = i → c < f → a ≤ k → i ≤ b → b ≤ d.length → d.length ≤ 1000000000000 → d[k]? = some x → Exc key d a b k → Place key d a b k i x →
    ∃ d', slices_symMergeCmpFunc_Slot_l9 n f (d, (i : Int), (k : Int), ()) = some (.inl (d', ())) ∧ Mv d d' a b ∧ Srt key d' a b := by
  intro c
  induction c with
  | zero =>
    intro f k d hk hf ha hi hb hL hx h1 h2
    obtain ⟨f, rfl⟩ : ∃ g, f = g + 1 := ⟨f - 1, by omega⟩
    rw [slices_symMergeCmpFunc_Slot_l9_eq]
    rw [wn (x := (i : Int) - 1) (k := k) (by omega) (by omega)]
    simp only [tif_dec, if_neg (show ¬ ((k : Int) < (k : Int)) by omega)]
    exact ⟨d, rfl, .refl _ _ _, exc_srt h1 h2 hx (by omega)⟩
  | succ c ih =>
    intro f k d hk hf ha hi hb hL hx h1 h2
    obtain ⟨f, rfl⟩ : ∃ g, f = g + 1 := ⟨f - 1, by omega⟩
    rw [slices_symMergeCmpFunc_Slot_l9_eq]
    have lk : k + 1 < d.length := by omega
    have gy : d[k + 1]? = some d[k + 1] := List.getElem?_eq_getElem lk
    have g1 : (d.set k d[k + 1])[k + 1]? = some d[k + 1] := by rw [List.getElem?_set_ne (by omega)]; exact gy
    rw [wn (x := (i : Int) - 1) (k := i - 1) (by omega) (by omega), wn (x := (k : Int) + 1) (k := k + 1) (by omega) (by omega)]
    simp only [tif_dec, if_pos (show ((k : Int) < ((i - 1 : Nat) : Int)) by omega), at_nat, Int.toNat_natCast, gy, hx, g1, obind_some]
    have sg := swap_get hx gy
    have mv := swap_mv (a := a) (b := b) hx gy (by omega) (by omega) (by omega) (by omega)
    obtain ⟨d', r1, r2, r3⟩ := ih f (k + 1) ((d.set k d[k + 1]).set (k + 1) x) (by omega) (by omega) (by omega) hi (by simpa using hb) (by simpa using hL)
      (by rw [sg, if_pos rfl]) (exc_swap (.inl rfl) (by omega) (by omega) hx gy h1)
      ⟨fun p z p1 p2 p3 hz => by
        rw [sg, if_neg p3] at hz
        by_cases e : p = k
        · rw [if_pos e] at hz; injection hz with hz; subst hz
          exact h2.1 (k + 1) _ (by omega) (by omega) (by omega) gy
        · rw [if_neg e] at hz; exact h2.1 p z p1 p2 e hz,
       fun p z p1 p2 p3 hz => by
        rw [sg, if_neg p3, if_neg (by omega)] at hz
        exact h2.2 p z p1 p2 (by omega) hz⟩
    exact ⟨d', r1, mv.trans r2, r3⟩
theorem sym_l21 {key : TSlot → Int} (n : Nat) (a b i : Nat) (x : TSlot) : ∀ (c f k : Nat) (d : List TSlot), i + c = k → c < f → a ≤ i → k < b → b ≤ d.length → d.length ≤ 1000000000000 → d[k]? = some x → Exc key d a b k → Place key d a b k i x →
    ∃ d', slices_symMergeCmpFunc_Slot_l21 n f (d, (i : Int), (k : Int), ()) = some (.inl (d', ())) ∧ Mv d d' a b ∧ Srt key d' a b := by
  intro c
  induction c with
  | zero =>
    intro f k d hk hf ha hi hb hL hx h1 h2
    obtain ⟨f, rfl⟩ : ∃ g, f = g + 1 := ⟨f - 1, by omega⟩
    rw [slices_symMergeCmpFunc_Slot_l21_eq]
    simp only [tif_dec, if_neg (show ¬ ((i : Int) < (k : Int)) by omega)]
    exact ⟨d, rfl, .refl _ _ _, exc_srt h1 h2 hx (by omega)⟩
  | succ c ih =>
    intro f k d hk hf ha hi hb hL hx h1 h2
    obtain ⟨f, rfl⟩ : ∃ g, f = g + 1 := ⟨f - 1, by omega⟩
    obtain ⟨k, rfl⟩ : ∃ g, k = g + 1 := ⟨k - 1, by omega⟩
    rw [slices_symMergeCmpFunc_Slot_l21_eq]
    have lk : k < d.length := by omega
    have gy : d[k]? = some d[k] := List.getElem?_eq_getElem lk
    have g1 : (d.set (k + 1) d[k])[k]? = some d[k] := by rw [List.getElem?_set_ne (by omega)]; exact gy
    rw [wn (x := ((k + 1 : Nat) : Int) - 1) (k := k) (by omega) (by omega)]
    simp only [tif_dec, if_pos (show ((i : Int) < ((k + 1 : Nat) : Int)) by omega), at_nat, Int.toNat_natCast, gy, hx, g1, obind_some]
    have sg := swap_get hx gy
    have mv := swap_mv (a := a) (b := b) hx gy (by omega) (by omega) (by omega) (by omega)
    obtain ⟨d', r1, r2, r3⟩ := ih f k ((d.set (k + 1) d[k]).set k x) (by omega) (by omega) (by omega) (by omega) (by simpa using hb) (by simpa using hL)
      (by rw [sg, if_pos rfl]) (exc_swap (.inr rfl) (by omega) (by omega) hx gy h1)
      ⟨fun p z p1 p2 p3 hz => by
        rw [sg, if_neg p3, if_neg (by omega)] at hz
        exact h2.1 p z p1 p2 (by omega) hz,
       fun p z p1 p2 p3 hz => by
        rw [sg, if_neg p3] at hz
        by_cases e : p = k + 1
        · rw [if_pos e] at hz; injection hz with hz; subst hz
          exact h2.2 k _ (by omega) (by omega) (by omega) gy
        · rw [if_neg e] at hz; exact h2.2 p z p1 p2 e hz⟩
    exact ⟨d', r1, mv.trans r2, r3⟩
section
variable {cmp : (TSlot × (TSlot × Unit)) → Option Int} {key : TSlot → Int} (hc : Cmp cmp key)
include hc
/-- where the halves are cut -/
theorem sym_l33 (n : Nat) (a b mid n_ : Int) (m p : Int) (mn bn pn : Nat) (an : Nat) (hp : p = pn) (d : List TSlot) (hL : d.length ≤ 1000000000000) (h1 : Srt key d an mn) (h2 : Srt key d mn bn) (hb : bn ≤ d.length) (lo hi : Nat)
    (hlo : an ≤ lo) (hhi : hi ≤ mn) (hq : ∀ c, lo ≤ c → c < hi → c ≤ pn ∧ mn ≤ pn - c ∧ pn - c < bn) : ∀ (k f i j : Nat), j - i ≤ k → k < f → i ≤ j → lo ≤ i → j ≤ hi →
    (∀ c x y, lo ≤ c → c < i → d[c]? = some x → d[pn - c]? = some y → key x ≤ key y) → (∀ c x y, j ≤ c → c < hi → d[c]? = some x → d[pn - c]? = some y → key y < key x) →
    ∃ r : Nat, slices_symMergeCmpFunc_Slot_l33 n f (d, a, m, b, cmp, mid, n_, (i : Int), (j : Int), p, ()) = some (.inl (d, a, m, b, cmp, mid, n_, (r : Int), ())) ∧ lo ≤ r ∧ r ≤ hi ∧
      (∀ c x y, lo ≤ c → c < r → d[c]? = some x → d[pn - c]? = some y → key x ≤ key y) ∧ (∀ c x y, r ≤ c → c < hi → d[c]? = some x → d[pn - c]? = some y → key y < key x) := by
  subst hp
  have le1 : ∀ {i j x y}, an ≤ i → i ≤ j → j < mn → d[i]? = some x → d[j]? = some y → key x ≤ key y := by
    intro i j x y q1 q2 q3 hx hy
    rcases Nat.lt_or_eq_of_le q2 with q | q
    · exact h1 i j x y q1 q q3 hx hy
    · subst q; rw [hx] at hy; injection hy with hy; subst hy; exact Int.le_refl _
  have le2 : ∀ {i j x y}, mn ≤ i → i ≤ j → j < bn → d[i]? = some x → d[j]? = some y → key x ≤ key y := by
    intro i j x y q1 q2 q3 hx hy
    rcases Nat.lt_or_eq_of_le q2 with q | q
    · exact h2 i j x y q1 q q3 hx hy
    · subst q; rw [hx] at hy; injection hy with hy; subst hy; exact Int.le_refl _
  intro k
  induction k with
  | zero =>
    intro f i j hk hf hij hi' hj g1 g2
    obtain ⟨f, rfl⟩ : ∃ g, f = g + 1 := ⟨f - 1, by omega⟩
    rw [slices_symMergeCmpFunc_Slot_l33_eq]
    simp only [tif_dec, if_neg (show ¬ ((i : Int) < (j : Int)) by omega)]
    have e : i = j := by omega
    subst e
    exact ⟨i, rfl, hi', hj, g1, g2⟩
  | succ k ih =>
    intro f i j hk hf hij hi' hj g1 g2
    obtain ⟨f, rfl⟩ : ∃ g, f = g + 1 := ⟨f - 1, by omega⟩
    rw [slices_symMergeCmpFunc_Slot_l33_eq]
    by_cases lt : i < j
    · generalize hcc : (i + j) / 2 = c
      have hq' := hq c (by omega) (by omega)
      have e1 := half_nat i j (by omega)
      rw [hcc] at e1
      have e2 : IntKind.wrap .i64 ((pn : Int) - (c : Int)) = ((pn - c : Nat) : Int) := wn (by omega) (by omega)
      obtain ⟨v, hcm, hlt⟩ := hc d[pn - c] d[c]
      have gc : d[c]? = some d[c] := List.getElem?_eq_getElem (by omega)
      have gp : d[pn - c]? = some d[pn - c] := List.getElem?_eq_getElem (by omega)
      simp only [tif_not, tif_dec, if_pos (show ((i : Int) < (j : Int)) by omega), e1, e2, at_nat, Int.toNat_natCast, gc, gp, obind_some, hcm]
      by_cases hlt' : v < 0
      · have kl := hlt.1 hlt'
        simp only [if_pos hlt']
        refine ih f i c (by omega) (by omega) (by omega) hi' (by omega) g1 (fun q x y p1 p2 hx hy => ?_)
        have hq2 := hq q (by omega) (by omega)
        have := le1 (i := c) (j := q) (by omega) p1 (by omega) gc hx
        have := le2 (i := pn - q) (j := pn - c) (by omega) (by omega) (by omega) hy gp
        omega
      · have kl : key d[c] ≤ key d[pn - c] := by have := mt hlt.2 hlt'; omega
        simp only [if_neg hlt']
        rw [wn (x := (c : Int) + 1) (k := c + 1) (by omega) (by omega)]
        refine ih f (c + 1) j (by omega) (by omega) (by omega) (by omega) hj (fun q x y p1 p2 hx hy => ?_) g2
        have hq2 := hq q (by omega) (by omega)
        have := le1 (i := q) (j := c) (by omega) (by omega) (by omega) hx gc
        have := le2 (i := pn - c) (j := pn - q) (by omega) (by omega) (by omega) gp hy
        omega
    · simp only [tif_dec, if_neg (show ¬ ((i : Int) < (j : Int)) by omega)]
      have e : i = j := by omega
      subst e
      exact ⟨i, rfl, hi', hj, g1, g2⟩
theorem symMerge_ok : ∀ (dd n : Nat) (a m b : Int) (an mn bn : Nat) (d : List TSlot), a = an → m = mn → b = bn → an < mn → mn < bn → bn ≤ d.length → d.length ≤ 1000000000000 → bn - an ≤ 2 ^ dd → Srt key d an mn → Srt key d mn bn →
    ∃ d', slices_symMergeCmpFunc_Slot (n + dd + 2) d a m b cmp = some d' ∧ Mv d d' an bn ∧ Srt key d' an bn := by
  intro dd
  induction dd with
  | zero => intro n a m b an mn bn d ha hm hb h1 h2 hl hL hd; simp at hd; omega
  | succ dd ih =>
    intro n a m b an mn bn d ha hm hb h1 h2 hl hL hd s1 s2
    subst ha hm hb
    rw [show n + (dd + 1) + 2 = (n + dd + 2) + 1 by omega, slices_symMergeCmpFunc_Slot_eq]
    rw [wn (x := (mn : Int) - an) (k := mn - an) (by omega) (by omega), wn (x := (bn : Int) - mn) (k := bn - mn) (by omega) (by omega)]
    simp only [tif_tif]
    simp only [tif_dec]
    have gm : d[mn]? = some d[mn] := List.getElem?_eq_getElem (by omega)
    have ga : d[an]? = some d[an] := List.getElem?_eq_getElem (by omega)
    by_cases c1 : ((mn - an : Nat) : Int) = 1
    · rw [if_pos c1]
      have e : mn = an + 1 := by omega
      obtain ⟨r, r1, r2, r3, r4, r5⟩ := sym_l3 hc (n + dd + 2) (an : Int) an rfl d d[an] ga hL mn bn s2 hl (bn - mn) loopFuel mn bn (by omega) (by unfold loopFuel; omega) (by omega) (by omega) (by omega) (fun p y p1 p2 => by omega) (fun p y p1 p2 => by omega)
      rw [r1]
      simp only [obind_some, selim_inl]
      obtain ⟨d', t1, t2, t3⟩ := sym_l9 (key := key) (n + dd + 2) an bn r d[an] (r - an - 1) loopFuel an d (by omega) (by unfold loopFuel; omega) (by omega) r3 hl hL ga
        (fun p q x y p1 p2 p3 p4 p5 hx hy => s2 p q x y (by omega) p2 p3 hx hy)
        ⟨fun p z p1 p2 p3 hz => Int.le_of_lt (r4 p z (by omega) p2 hz), fun p z p1 p2 p3 hz => r5 p z p1 p2 hz⟩
      rw [t1]
      exact ⟨d', by simp, t2, t3⟩
    rw [if_neg c1]
    by_cases c2 : ((bn - mn : Nat) : Int) = 1
    · rw [if_pos c2]
      obtain ⟨r, r1, r2, r3, r4, r5⟩ := sym_l15 hc (n + dd + 2) (mn : Int) mn rfl d d[mn] gm hL an mn s1 (by omega) (mn - an) loopFuel an mn (by omega) (by unfold loopFuel; omega) (by omega) (by omega) (by omega) (fun p y p1 p2 => by omega) (fun p y p1 p2 => by omega)
      rw [r1]
      simp only [obind_some, selim_inl]
      obtain ⟨d', t1, t2, t3⟩ := sym_l21 (key := key) (n + dd + 2) an bn r d[mn] (mn - r) loopFuel mn d (by omega) (by unfold loopFuel; omega) (by omega) (by omega) hl hL gm
        (fun p q x y p1 p2 p3 p4 p5 hx hy => s1 p q x y (by omega) p2 (by omega) hx hy)
        ⟨fun p z p1 p2 p3 hz => r4 p z p1 p2 hz, fun p z p1 p2 p3 hz => Int.le_of_lt (r5 p z p1 (by omega) hz)⟩
      rw [t1]
      exact ⟨d', by simp, t2, t3⟩
    rw [if_neg c2, half_nat an bn (by omega)]
    generalize hmid : (an + bn) / 2 = mid
    have hpow : 2 ^ (dd + 1) = 2 ^ dd * 2 := Nat.pow_succ 2 dd
    generalize 2 ^ dd = P at *
    rw [wn (x := (mid : Int) + mn) (k := mid + mn) (by omega) (by omega)]
    -- from the cut on
    have fin : ∀ s : Nat, an ≤ s → s ≤ mn → mn ≤ mid + mn - s → mid + mn - s ≤ bn → s ≤ mid →
        (∀ x y, an < s → mid + mn - s < bn → d[s - 1]? = some x → d[mid + mn - s]? = some y → key x ≤ key y) →
        (∀ x y, s < mn → mn < mid + mn - s → d[mid + mn - s - 1]? = some x → d[s]? = some y → key x ≤ key y) →
        ∃ d', (if (s : Int) < (mn : Int) ∧ (mn : Int) < ((mid + mn - s : Nat) : Int) then
            obind (slices_rotateCmpFunc_Slot (n + dd + 2) d (s : Int) (mn : Int) ((mid + mn - s : Nat) : Int) cmp) fun r14 =>
              if (an : Int) < (s : Int) ∧ (s : Int) < (mid : Int) then
                obind (slices_symMergeCmpFunc_Slot (n + dd + 2) r14 (an : Int) (s : Int) (mid : Int) cmp) fun r15 =>
                  if (mid : Int) < ((mid + mn - s : Nat) : Int) ∧ ((mid + mn - s : Nat) : Int) < (bn : Int) then obind (slices_symMergeCmpFunc_Slot (n + dd + 2) r15 (mid : Int) ((mid + mn - s : Nat) : Int) (bn : Int) cmp) fun r16 => some r16
                  else some r15
              else if (mid : Int) < ((mid + mn - s : Nat) : Int) ∧ ((mid + mn - s : Nat) : Int) < (bn : Int) then obind (slices_symMergeCmpFunc_Slot (n + dd + 2) r14 (mid : Int) ((mid + mn - s : Nat) : Int) (bn : Int) cmp) fun r17 => some r17
                else some r14
          else if (an : Int) < (s : Int) ∧ (s : Int) < (mid : Int) then
                obind (slices_symMergeCmpFunc_Slot (n + dd + 2) d (an : Int) (s : Int) (mid : Int) cmp) fun r15 =>
                  if (mid : Int) < ((mid + mn - s : Nat) : Int) ∧ ((mid + mn - s : Nat) : Int) < (bn : Int) then obind (slices_symMergeCmpFunc_Slot (n + dd + 2) r15 (mid : Int) ((mid + mn - s : Nat) : Int) (bn : Int) cmp) fun r16 => some r16
                  else some r15
              else if (mid : Int) < ((mid + mn - s : Nat) : Int) ∧ ((mid + mn - s : Nat) : Int) < (bn : Int) then obind (slices_symMergeCmpFunc_Slot (n + dd + 2) d (mid : Int) ((mid + mn - s : Nat) : Int) (bn : Int) cmp) fun r17 => some r17
                else some d) = some d' ∧ Mv d d' an bn ∧ Srt key d' an bn := by
      intro s k1 k2 k3 k4 k5 q1 q2
      generalize he : mid + mn - s = e at *
      -- what the turning gives
      have tail : ∀ d1, Turned d d1 s mn e → ∃ d', (if (an : Int) < (s : Int) ∧ (s : Int) < (mid : Int) then
                obind (slices_symMergeCmpFunc_Slot (n + dd + 2) d1 (an : Int) (s : Int) (mid : Int) cmp) fun r15 =>
                  if (mid : Int) < ((e : Nat) : Int) ∧ ((e : Nat) : Int) < (bn : Int) then obind (slices_symMergeCmpFunc_Slot (n + dd + 2) r15 (mid : Int) ((e : Nat) : Int) (bn : Int) cmp) fun r16 => some r16
                  else some r15
              else if (mid : Int) < ((e : Nat) : Int) ∧ ((e : Nat) : Int) < (bn : Int) then obind (slices_symMergeCmpFunc_Slot (n + dd + 2) d1 (mid : Int) ((e : Nat) : Int) (bn : Int) cmp) fun r17 => some r17
                else some d1) = some d' ∧ Mv d d' an bn ∧ Srt key d' an bn := by
        intro d1 t
        obtain ⟨⟨w1, w2, w3, w4⟩, cr⟩ := halves (a := an) (b := bn) (mid := mid) s1 s2 t k1 k2 k3 k4 (by omega) hl q1 q2
        have l1 := t.mv.len
        have m1 : Mv d d1 an bn := t.mv.mono k1 k4
        -- the first half
        have half1 : ∃ d2, (((an : Int) < (s : Int) ∧ (s : Int) < (mid : Int)) → slices_symMergeCmpFunc_Slot (n + dd + 2) d1 (an : Int) (s : Int) (mid : Int) cmp = some d2) ∧ (¬ ((an : Int) < (s : Int) ∧ (s : Int) < (mid : Int)) → d2 = d1) ∧ Mv d1 d2 an mid ∧ Srt key d2 an mid := by
          by_cases c : (an : Int) < (s : Int) ∧ (s : Int) < (mid : Int)
          · obtain ⟨d2, t1, t2, t3⟩ := ih n (an : Int) (s : Int) (mid : Int) an s mid d1 rfl rfl rfl (by omega) (by omega) (by omega) (by omega) (by omega) w1 w2
            exact ⟨d2, fun _ => t1, fun h => absurd c h, t2, t3⟩
          · refine ⟨d1, fun h => absurd h c, fun _ => rfl, .refl _ _ _, ?_⟩
            by_cases c' : an < s
            · have : s = mid := by omega
              subst this; exact w1
            · have : s = an := by omega
              subst this; exact w2
        obtain ⟨d2, u1, u2, u3, u4⟩ := half1
        have l2 := u3.len
        have w3' := w3.keep u3 (.inr (Nat.le_refl _))
        have w4' := w4.keep u3 (.inr (by omega))
        have cr2 := cross_mv cr (.inl u3)
        have half2 : ∃ d3, (((mid : Int) < (e : Int) ∧ (e : Int) < (bn : Int)) → slices_symMergeCmpFunc_Slot (n + dd + 2) d2 (mid : Int) (e : Int) (bn : Int) cmp = some d3) ∧ (¬ ((mid : Int) < (e : Int) ∧ (e : Int) < (bn : Int)) → d3 = d2) ∧ Mv d2 d3 mid bn ∧ Srt key d3 mid bn := by
          by_cases c : (mid : Int) < (e : Int) ∧ (e : Int) < (bn : Int)
          · obtain ⟨d3, t1, t2, t3⟩ := ih n (mid : Int) (e : Int) (bn : Int) mid e bn d2 rfl rfl rfl (by omega) (by omega) (by omega) (by omega) (by omega) w3' w4'
            exact ⟨d3, fun _ => t1, fun h => absurd c h, t2, t3⟩
          · refine ⟨d2, fun h => absurd h c, fun _ => rfl, .refl _ _ _, ?_⟩
            by_cases c' : mid < e
            · have : e = bn := by omega
              rw [this] at w3'; exact w3'
            · have : e = mid := by omega
              rw [this] at w4'; exact w4'
        obtain ⟨d3, v1, v2, v3, v4⟩ := half2
        have fin3 : Mv d d3 an bn ∧ Srt key d3 an bn :=
          ⟨(m1.trans (u3.mono (Nat.le_refl _) (by omega))).trans (v3.mono (by omega) (Nat.le_refl _)), Srt.join (u4.keep v3 (.inl (Nat.le_refl _))) v4 (cross_mv cr2 (.inr v3))⟩
        refine ⟨d3, ?_, fin3⟩
        by_cases c : (an : Int) < (s : Int) ∧ (s : Int) < (mid : Int)
        · rw [if_pos c, u1 c, obind_some]
          by_cases c' : (mid : Int) < (e : Int) ∧ (e : Int) < (bn : Int)
          · rw [if_pos c', v1 c', obind_some]
          · rw [if_neg c', v2 c']
        · rw [if_neg c]
          obtain rfl := u2 c
          by_cases c' : (mid : Int) < (e : Int) ∧ (e : Int) < (bn : Int)
          · rw [if_pos c', v1 c', obind_some]
          · rw [if_neg c', v2 c']
      by_cases c : (s : Int) < (mn : Int) ∧ (mn : Int) < (e : Int)
      · obtain ⟨d1, t1, t2⟩ := rotate_ok (cmp := cmp) (n + dd) (s : Int) (mn : Int) (e : Int) s mn e rfl rfl rfl d (by omega) (by omega) (by omega) hL
        rw [if_pos c, t1, obind_some]
        exact tail d1 t2
      · rw [if_neg c]
        exact tail d (turned_refl d (by omega))
    by_cases c3 : (mid : Int) < (mn : Int)
    · rw [if_pos c3, wn (x := ((mid + mn : Nat) : Int) - bn) (k := mid + mn - bn) (by omega) (by omega), wn (x := ((mid + mn : Nat) : Int) - 1) (k := mid + mn - 1) (by omega) (by omega)]
      obtain ⟨r, r1, r2, r3, r4, r5⟩ := sym_l33 hc (n + dd + 2) (an : Int) (bn : Int) (mid : Int) ((mid + mn : Nat) : Int) (mn : Int) ((mid + mn - 1 : Nat) : Int) mn bn (mid + mn - 1) an rfl d hL s1 s2 hl (mid + mn - bn) mid (by omega) (by omega)
        (fun c h1 h2 => by omega) (mid - (mid + mn - bn)) loopFuel (mid + mn - bn) mid (by omega) (by unfold loopFuel; omega) (by omega) (by omega) (by omega) (fun c x y h1 h2 => by omega) (fun c x y h1 h2 => by omega)
      rw [r1]
      simp only [obind_some, selim_inl, wn (x := ((mid + mn : Nat) : Int) - (r : Int)) (k := mid + mn - r) (by omega) (by omega)]
      refine fin r (by omega) (by omega) (by omega) (by omega) (by omega) (fun x y h1 h2 hx hy => ?_) (fun x y h1 h2 hx hy => ?_)
      · refine r4 (r - 1) x y (by omega) (by omega) hx ?_
        rw [show mid + mn - 1 - (r - 1) = mid + mn - r by omega]; exact hy
      · refine Int.le_of_lt (r5 r y x (by omega) (by omega) hy ?_)
        rw [show mid + mn - 1 - r = mid + mn - r - 1 by omega]; exact hx
    · rw [if_neg c3, wn (x := ((mid + mn : Nat) : Int) - 1) (k := mid + mn - 1) (by omega) (by omega)]
      obtain ⟨r, r1, r2, r3, r4, r5⟩ := sym_l33 hc (n + dd + 2) (an : Int) (bn : Int) (mid : Int) ((mid + mn : Nat) : Int) (mn : Int) ((mid + mn - 1 : Nat) : Int) mn bn (mid + mn - 1) an rfl d hL s1 s2 hl an mn (by omega) (by omega)
        (fun c h1 h2 => by omega) (mn - an) loopFuel an mn (by omega) (by unfold loopFuel; omega) (by omega) (by omega) (by omega) (fun c x y h1 h2 => by omega) (fun c x y h1 h2 => by omega)
      rw [r1]
      simp only [obind_some, selim_inl, wn (x := ((mid + mn : Nat) : Int) - (r : Int)) (k := mid + mn - r) (by omega) (by omega)]
      refine fin r (by omega) (by omega) (by omega) (by omega) (by omega) (fun x y h1 h2 hx hy => ?_) (fun x y h1 h2 hx hy => ?_)
      · refine r4 (r - 1) x y (by omega) (by omega) hx ?_
        rw [show mid + mn - 1 - (r - 1) = mid + mn - r by omega]; exact hy
      · refine Int.le_of_lt (r5 r y x (by omega) (by omega) hy ?_)
        rw [show mid + mn - 1 - r = mid + mn - r - 1 by omega]; exact hx
end
end Go.Proofs.YthjnbidgliejkaaGreat
