/-
  Plain laws of wide numbers, events and cells: no program in sight.
-/
import Derived.IntWalk
namespace Go.Plim
set_option linter.unusedVariables false
abbrev Wd := Int × Int
abbrev Ev := Int × (Int × (Int × Bool))
abbrev Cel := Int × (Ev × (Ev × (Wd × (Int × (Int × Int)))))
instance decWd : DecidableEq Wd := inferInstanceAs (DecidableEq (Int × Int))
instance decEv : DecidableEq Ev := inferInstanceAs (DecidableEq (Int × (Int × (Int × Bool))))
instance decCel : DecidableEq Cel := @instDecidableEqProd _ _ _ (@instDecidableEqProd _ _ decEv (@instDecidableEqProd _ _ decEv (@instDecidableEqProd _ _ decWd inferInstance)))
/-! ## wide numbers -/
def wv (a : Wd) : Int := a.1 * 18446744073709551616 + a.2
structure WdOk (a : Wd) : Prop where
  hi : 0 ≤ a.1 ∧ a.1 ≤ 18446744073709551615
  lo : 0 ≤ a.2 ∧ a.2 ≤ 18446744073709551615
def mkW (v : Int) : Wd := (v / 18446744073709551616, v % 18446744073709551616)
theorem mkW_wv {a : Wd} (h : WdOk a) : mkW (wv a) = a := by
  obtain ⟨h1, h2⟩ := h
  obtain ⟨x, y⟩ := a
  simp only [mkW, wv] at *
  exact Prod.ext (by simp only; omega) (by simp only; omega)
theorem wv_mkW (v : Int) : wv (mkW v) = v := by
  simp only [mkW, wv]; omega
theorem mkW_ok {v : Int} (h : 0 ≤ v) (h' : v < 340282366920938463463374607431768211456) : WdOk (mkW v) := by
  constructor <;> simp only [mkW] <;> omega
theorem wv_range {a : Wd} (h : WdOk a) : 0 ≤ wv a ∧ wv a < 340282366920938463463374607431768211456 := by
  obtain ⟨h1, h2⟩ := h
  simp only [wv]; omega
theorem wv_zero : wv (0, 0) = 0 := rfl
theorem wv_lo (x : Int) : wv (0, x) = x := by simp [wv]
def addW (a b : Wd) : Wd × Int := if wv a + wv b < 340282366920938463463374607431768211456 then (mkW (wv a + wv b), 0) else ((0, 0), 1)
/-! ## events -/
def e0 : Ev := (0, (0, (0, false)))
structure EvOk (e : Ev) : Prop where
  t0 : 0 ≤ e.1
  t1 : e.1 < 35184372088832
  v0 : 0 ≤ e.2.1
  v1 : e.2.1 ≤ 18446744073709551615
  c0 : 0 ≤ e.2.2.1
  c1 : e.2.2.1 ≤ e.1
  st : e.2.2.2 = true → e.2.1 = 0 ∧ e.2.2.1 = 0
theorem evOk_iff (e : Ev) : EvOk e ↔ (0 ≤ e.1 ∧ e.1 < 35184372088832 ∧ 0 ≤ e.2.1 ∧ e.2.1 ≤ 18446744073709551615 ∧ 0 ≤ e.2.2.1 ∧ e.2.2.1 ≤ e.1 ∧ (e.2.2.2 = true → e.2.1 = 0 ∧ e.2.2.1 = 0)) :=
  ⟨fun ⟨a, b, c, d, f, g, h⟩ => ⟨a, b, c, d, f, g, h⟩, fun ⟨a, b, c, d, f, g, h⟩ => ⟨a, b, c, d, f, g, h⟩⟩
instance (e : Ev) : Decidable (EvOk e) := decidable_of_iff _ (evOk_iff e).symm
/-- what lies between two: by how much it rose, beginnings, gaps, seen -/
def btw (p c : Ev) : Int × (Int × (Int × Int)) :=
  if c.2.2.2 = true then (0, 0, 0, 0)
  else if p.1 < c.2.2.1 then (c.2.1, 1, 0, c.1 - c.2.2.1)
  else if p.2.2.2 = true then (0, 0, 1, 0)
  else if c.2.1 < p.2.1 then (c.2.1, 1, 0, c.1 - p.1)
  else (c.2.1 - p.2.1, 0, 0, c.1 - p.1)
structure DlOk (d : Int × (Int × (Int × Int))) (s : Int) : Prop where
  i : 0 ≤ d.1 ∧ d.1 ≤ 18446744073709551615
  r : 0 ≤ d.2.1
  g : 0 ≤ d.2.2.1
  rg : d.2.1 + d.2.2.1 ≤ 1
  s : 0 ≤ d.2.2.2 ∧ d.2.2.2 ≤ s
theorem btw_ok {p c : Ev} (hp : EvOk p) (hc : EvOk c) (h : p.1 < c.1) : DlOk (btw p c) (c.1 - p.1) := by
  obtain ⟨a1, a2, a3, a4, a5, a6, a7⟩ := hp
  obtain ⟨b1, b2, b3, b4, b5, b6, b7⟩ := hc
  unfold btw
  by_cases k1 : c.2.2.2 = true
  · rw [if_pos k1]; constructor <;> simp only <;> omega
  rw [if_neg k1]
  by_cases k2 : p.1 < c.2.2.1
  · rw [if_pos k2]; constructor <;> simp only <;> omega
  rw [if_neg k2]
  by_cases k3 : p.2.2.2 = true
  · rw [if_pos k3]; constructor <;> simp only <;> omega
  rw [if_neg k3]
  by_cases k4 : c.2.1 < p.2.1
  · rw [if_pos k4]; constructor <;> simp only <;> omega
  rw [if_neg k4]
  constructor <;> simp only <;> omega
/-! ## cells -/
def z0 : Cel := (0, (e0, (e0, ((0, 0), (0, (0, 0))))))
/-- a cell that is right, and not zero -/
structure CellN (c : Cel) : Prop where
  n1 : 1 ≤ c.1
  f : EvOk c.2.1
  l : EvOk c.2.2.1
  one : c.1 = 1 → c.2.1 = c.2.2.1
  more : 1 < c.1 → c.2.1.1 < c.2.2.1.1
  n2 : c.1 - 1 ≤ c.2.2.1.1 - c.2.1.1
  w : WdOk c.2.2.2.1
  inc : wv c.2.2.2.1 ≤ 18446744073709551615 * (c.1 - 1)
  r : 0 ≤ c.2.2.2.2.1
  g : 0 ≤ c.2.2.2.2.2.1
  rg : c.2.2.2.2.1 + c.2.2.2.2.2.1 ≤ c.1 - 1
  s0 : 0 ≤ c.2.2.2.2.2.2
  s1 : c.2.2.2.2.2.2 ≤ c.2.2.1.1 - c.2.1.1
theorem wdOk_iff (a : Wd) : WdOk a ↔ (0 ≤ a.1 ∧ a.1 ≤ 18446744073709551615) ∧ (0 ≤ a.2 ∧ a.2 ≤ 18446744073709551615) :=
  ⟨fun ⟨a, b⟩ => ⟨a, b⟩, fun ⟨a, b⟩ => ⟨a, b⟩⟩
instance (a : Wd) : Decidable (WdOk a) := decidable_of_iff _ (wdOk_iff a).symm
theorem cellN_iff (c : Cel) : CellN c ↔ (1 ≤ c.1 ∧ EvOk c.2.1 ∧ EvOk c.2.2.1 ∧ (c.1 = 1 → c.2.1 = c.2.2.1) ∧ (1 < c.1 → c.2.1.1 < c.2.2.1.1) ∧ c.1 - 1 ≤ c.2.2.1.1 - c.2.1.1 ∧ WdOk c.2.2.2.1 ∧
    wv c.2.2.2.1 ≤ 18446744073709551615 * (c.1 - 1) ∧ 0 ≤ c.2.2.2.2.1 ∧ 0 ≤ c.2.2.2.2.2.1 ∧ c.2.2.2.2.1 + c.2.2.2.2.2.1 ≤ c.1 - 1 ∧ 0 ≤ c.2.2.2.2.2.2 ∧ c.2.2.2.2.2.2 ≤ c.2.2.1.1 - c.2.1.1) :=
  ⟨fun ⟨a, b, c, d, e, f, g, h, i, j, k, l, m⟩ => ⟨a, b, c, d, e, f, g, h, i, j, k, l, m⟩, fun ⟨a, b, c, d, e, f, g, h, i, j, k, l, m⟩ => ⟨a, b, c, d, e, f, g, h, i, j, k, l, m⟩⟩
instance (c : Cel) : Decidable (CellN c) := decidable_of_iff _ (cellN_iff c).symm
def CellOk (c : Cel) : Prop := c = z0 ∨ CellN c
instance (c : Cel) : Decidable (CellOk c) := by unfold CellOk; infer_instance
theorem CellN.ne {c : Cel} (h : CellN c) : c ≠ z0 := by
  intro e; have := h.n1; rw [e] at this; simp [z0] at this
theorem CellN.ok {c : Cel} (h : CellN c) : CellOk c := .inr h
theorem ok_z0 : CellOk z0 := .inl rfl
theorem CellOk.n {c : Cel} (h : CellOk c) (hz : c ≠ z0) : CellN c := h.resolve_left hz
theorem CellOk.count {c : Cel} (h : CellOk c) : (c.1 = 0 ↔ c = z0) ∧ 0 ≤ c.1 := by
  rcases h with rfl | h
  · exact ⟨⟨fun _ => rfl, fun _ => rfl⟩, by simp [z0]⟩
  · have := h.n1; exact ⟨⟨fun e => by omega, fun e => absurd e h.ne⟩, by omega⟩
theorem CellN.ft {c : Cel} (h : CellN c) : c.2.1.1 ≤ c.2.2.1.1 := by have := h.n1; have := h.n2; omega
theorem CellN.small {c : Cel} (h : CellN c) : c.1 ≤ 35184372088832 := by
  have := h.n2; have := h.f.t0; have := h.l.t1; omega
/-- both together: the one ahead of the other -/
def mrg (a b : Cel) : Cel :=
  if a = z0 then b else if b = z0 then a else
    (a.1 + b.1, (a.2.1, (b.2.2.1, (mkW (wv a.2.2.2.1 + (btw a.2.2.1 b.2.1).1 + wv b.2.2.2.1),
      (a.2.2.2.2.1 + (btw a.2.2.1 b.2.1).2.1 + b.2.2.2.2.1, (a.2.2.2.2.2.1 + (btw a.2.2.1 b.2.1).2.2.1 + b.2.2.2.2.2.1, a.2.2.2.2.2.2 + (btw a.2.2.1 b.2.1).2.2.2 + b.2.2.2.2.2.2))))))
/-- the one lies ahead of the other, if neither is zero -/
def Ahead (a b : Cel) : Prop := a = z0 ∨ b = z0 ∨ a.2.2.1.1 < b.2.1.1
instance (a b : Cel) : Decidable (Ahead a b) := by unfold Ahead; infer_instance
theorem mrg_z0 (a : Cel) : mrg a z0 = a := by
  unfold mrg; split
  · rename_i h; exact h.symm
  · simp
theorem z0_mrg (a : Cel) : mrg z0 a = a := by unfold mrg; simp
theorem mrg_n {a b : Cel} (ha : CellN a) (hb : CellN b) : mrg a b = (a.1 + b.1, (a.2.1, (b.2.2.1, (mkW (wv a.2.2.2.1 + (btw a.2.2.1 b.2.1).1 + wv b.2.2.2.1),
      (a.2.2.2.2.1 + (btw a.2.2.1 b.2.1).2.1 + b.2.2.2.2.1, (a.2.2.2.2.2.1 + (btw a.2.2.1 b.2.1).2.2.1 + b.2.2.2.2.2.1, a.2.2.2.2.2.2 + (btw a.2.2.1 b.2.1).2.2.2 + b.2.2.2.2.2.2)))))) := by
  unfold mrg; rw [if_neg ha.ne, if_neg hb.ne]
theorem mrg_N {a b : Cel} (ha : CellN a) (hb : CellN b) (h : a.2.2.1.1 < b.2.1.1) : CellN (mrg a b) := by
  have d := btw_ok ha.l hb.f h
  have a1 := ha.n1; have b1 := hb.n1
  have a2 := ha.ft; have b2 := hb.ft
  have a3 := ha.inc; have b3 := hb.inc
  have a4 := wv_range ha.w; have b4 := wv_range hb.w
  have a5 := ha.small; have b5 := hb.small
  rw [mrg_n ha hb]
  generalize btw a.2.2.1 b.2.1 = x at *
  obtain ⟨d1, d2, d3, d4, d5⟩ := d
  have e : 18446744073709551615 * (a.1 + b.1 - 1) = 18446744073709551615 * (a.1 - 1) + 18446744073709551615 + 18446744073709551615 * (b.1 - 1) := by omega
  constructor <;> simp only
  · omega
  · exact ha.f
  · exact hb.l
  · intro h; omega
  · intro _; omega
  · have := ha.n2; have := hb.n2; omega
  · exact mkW_ok (by omega) (by omega)
  · rw [wv_mkW]; omega
  · have := ha.r; have := hb.r; omega
  · have := ha.g; have := hb.g; omega
  · have := ha.rg; have := hb.rg; omega
  · have := ha.s0; have := hb.s0; omega
  · have := ha.s1; have := hb.s1; omega
theorem mrg_ok {a b : Cel} (ha : CellOk a) (hb : CellOk b) (h : Ahead a b) : CellOk (mrg a b) := by
  by_cases k : a = z0
  · rw [k, z0_mrg]; exact hb
  by_cases k' : b = z0
  · rw [k', mrg_z0]; exact ha
  exact .inr (mrg_N (ha.n k) (hb.n k') ((h.resolve_left k).resolve_left k'))
theorem mrg_assoc {a b c : Cel} (ha : CellOk a) (hb : CellOk b) (hc : CellOk c) (h1 : Ahead a b) (h2 : Ahead b c) (h3 : Ahead a c) : mrg (mrg a b) c = mrg a (mrg b c) := by
  by_cases k : a = z0
  · rw [k, z0_mrg, z0_mrg]
  by_cases k' : b = z0
  · rw [k', mrg_z0, z0_mrg]
  by_cases k'' : c = z0
  · rw [k'', mrg_z0, mrg_z0]
  have na := ha.n k; have nb := hb.n k'; have nc := hc.n k''
  have g1 := (h1.resolve_left k).resolve_left k'
  have g2 := (h2.resolve_left k').resolve_left k''
  rw [mrg_n (mrg_N na nb g1) nc, mrg_n na (mrg_N nb nc g2), mrg_n na nb, mrg_n nb nc]
  simp only [wv_mkW]
  refine Prod.ext (by simp only; omega) (Prod.ext rfl (Prod.ext rfl (Prod.ext ?_ (Prod.ext ?_ (Prod.ext ?_ ?_))))) <;> simp only
  · congr 1; omega
  · omega
  · omega
  · omega
def evCell (e : Ev) : Cel := (1, (e, (e, ((0, 0), (0, (0, 0))))))
theorem evCell_N {e : Ev} (h : EvOk e) : CellN (evCell e) := by
  constructor <;> simp only [evCell]
  · omega
  · exact h
  · exact h
  · intro _; trivial
  · intro h; omega
  · omega
  · exact ⟨by simp, by simp⟩
  · simp [wv]
  all_goals omega
/-- the cell of events -/
def cellOf (l : List Ev) : Cel := l.foldl (fun c e => mrg c (evCell e)) z0
/-- events that follow -/
structure Foll (l : List Ev) : Prop where
  ok : ∀ e ∈ l, EvOk e
  inc : l.Pairwise fun a b => a.1 < b.1
theorem Foll.nil : Foll [] := ⟨by simp, .nil⟩
theorem foll_append {l m : List Ev} : Foll (l ++ m) ↔ Foll l ∧ Foll m ∧ ∀ x ∈ l, ∀ y ∈ m, x.1 < y.1 := by
  constructor
  · rintro ⟨h1, h2⟩
    rw [List.pairwise_append] at h2
    exact ⟨⟨fun x hx => h1 x (by simp [hx]), h2.1⟩, ⟨fun x hx => h1 x (by simp [hx]), h2.2.1⟩, h2.2.2⟩
  · rintro ⟨h1, h2, h3⟩
    refine ⟨fun x hx => ?_, List.pairwise_append.2 ⟨h1.inc, h2.inc, h3⟩⟩
    rcases List.mem_append.1 hx with hx | hx
    · exact h1.ok x hx
    · exact h2.ok x hx
theorem Foll.sub {l m : List Ev} (h : Foll l) (s : m.Sublist l) : Foll m := ⟨fun e he => h.ok e (s.subset he), h.inc.sublist s⟩
theorem cellOf_snoc (l : List Ev) (e : Ev) : cellOf (l ++ [e]) = mrg (cellOf l) (evCell e) := by simp [cellOf, List.foldl_append]
theorem cellOf_nil : cellOf [] = z0 := rfl
theorem cellOf_one (e : Ev) : cellOf [e] = evCell e := by simp [cellOf, z0_mrg]
/-- what a cell of events has -/
structure Has (l : List Ev) (c : Cel) : Prop where
  n : CellN c
  cnt : c.1 = l.length
  first : l.head? = some c.2.1
  last : l.getLast? = some c.2.2.1
theorem cellOf_has : ∀ (l : List Ev) (e : Ev), Foll (l ++ [e]) → Has (l ++ [e]) (cellOf (l ++ [e])) := by
  intro l
  induction hl : l.length generalizing l with
  | zero =>
    intro e h
    obtain rfl := List.length_eq_zero_iff.1 hl
    rw [List.nil_append, cellOf_one]
    exact ⟨evCell_N (h.ok e (by simp)), rfl, rfl, rfl⟩
  | succ k ih =>
    intro e h
    rcases List.eq_nil_or_concat l with rfl | ⟨m, x, rfl⟩
    · cases hl
    rw [List.concat_eq_append] at *
    have hm := ih m (by simp at hl; exact hl) x (foll_append.1 h).1
    have hx : x.1 < e.1 := (foll_append.1 h).2.2 x (by simp) e (by simp)
    rw [cellOf_snoc]
    have hlast : (cellOf (m ++ [x])).2.2.1 = x := by have := hm.last; simp at this; exact this.symm
    have he := evCell_N (h.ok e (by simp))
    have hlt : (cellOf (m ++ [x])).2.2.1.1 < (evCell e).2.1.1 := by rw [hlast]; exact hx
    refine ⟨mrg_N hm.n he hlt, ?_, ?_, ?_⟩
    · rw [mrg_n hm.n he]; simp only [hm.cnt, evCell]; simp; omega
    · rw [mrg_n hm.n he]
      have := hm.first
      simp only [List.head?_append] at this ⊢
      rw [this]; rfl
    · rw [mrg_n hm.n he]; simp [evCell]
theorem cellOf_ok {l : List Ev} (h : Foll l) : CellOk (cellOf l) := by
  rcases List.eq_nil_or_concat l with rfl | ⟨m, x, rfl⟩
  · exact ok_z0
  · rw [List.concat_eq_append] at *; exact (cellOf_has m x h).n.ok
theorem cellOf_N {l : List Ev} (h : Foll l) (hn : l ≠ []) : Has l (cellOf l) := by
  rcases List.eq_nil_or_concat l with rfl | ⟨m, x, rfl⟩
  · exact absurd rfl hn
  · rw [List.concat_eq_append] at *; exact cellOf_has m x h
theorem cellOf_ahead {l m : List Ev} (h : Foll (l ++ m)) : Ahead (cellOf l) (cellOf m) := by
  obtain ⟨h1, h2, h3⟩ := foll_append.1 h
  by_cases a : l = []
  · exact .inl (by rw [a]; rfl)
  by_cases b : m = []
  · exact .inr (.inl (by rw [b]; rfl))
  have ha := cellOf_N h1 a; have hb := cellOf_N h2 b
  exact .inr (.inr (h3 _ (List.mem_of_getLast? ha.last) _ (List.mem_of_head? hb.first)))
theorem cellOf_append {l : List Ev} : ∀ {m : List Ev}, Foll (l ++ m) → cellOf (l ++ m) = mrg (cellOf l) (cellOf m) := by
  intro m
  induction hm : m.length generalizing m with
  | zero =>
    obtain rfl := List.length_eq_zero_iff.1 hm
    intro _; rw [List.append_nil, cellOf_nil, mrg_z0]
  | succ k ih =>
    intro h
    rcases List.eq_nil_or_concat m with rfl | ⟨q, x, rfl⟩
    · cases hm
    rw [List.concat_eq_append] at *
    have h' : Foll (l ++ q) := h.sub (by simp)
    rw [← List.append_assoc, cellOf_snoc, cellOf_snoc, ih (by simp at hm; exact hm) h']
    have hq : Foll (q ++ [x]) := (foll_append.1 h).2.1
    refine mrg_assoc (cellOf_ok (foll_append.1 h).1) (cellOf_ok (foll_append.1 hq).1) (evCell_N (h.ok x (by simp))).ok (cellOf_ahead h') ?_ ?_
    · have := cellOf_ahead (l := q) (m := [x]) hq
      rwa [cellOf_one] at this
    · have := cellOf_ahead (l := l) (m := [x]) (h.sub (by simp))
      rwa [cellOf_one] at this
/-- merged, or why not -/
def mrgE (a b : Cel) : Cel × Int := if CellOk a ∧ CellOk b then (if Ahead a b then (mrg a b, 0) else (z0, 9)) else (z0, 2)
/-- several merged -/
def allE : Cel → List Cel → Cel × Int
  | c, [] => (c, 0)
  | c, x :: r => if (mrgE c x).2 = 0 then allE (mrgE c x).1 r else (z0, (mrgE c x).2)
/-- those of events -/
def ofE (l : List Ev) : Cel × Int := if ∀ e ∈ l, EvOk e then (if l.Pairwise fun a b => a.1 < b.1 then (cellOf l, 0) else (z0, 9)) else (z0, 2)
end Go.Plim
