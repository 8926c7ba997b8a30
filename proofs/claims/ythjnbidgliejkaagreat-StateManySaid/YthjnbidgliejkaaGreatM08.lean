/-
  Plain laws of wide numbers, events and cells: no program in sight.
-/
import Derived.IntWalk
namespace Go.Plim
set_option linter.unusedVariables false
abbrev Wd := Int × Int
abbrev Ev := Int × (Int × (Int × Bool))
abbrev Cel := Int × (Ev × (Ev × (Wd × (Int × (Int × Int)))))
instance decWd : DecidableEq Wd := inferInstanceAs (DecidableEq (Int × Int))
instance decEv : DecidableEq Ev := inferInstanceAs (DecidableEq (Int × (Int × (Int × Bool))))
instance decCel : DecidableEq Cel := @instDecidableEqProd _ _ _ (@instDecidableEqProd _ _ decEv (@instDecidableEqProd _ _ decEv (@instDecidableEqProd _ _ decWd inferInstance)))
/-! ## wide numbers -/
def wv (a : Wd) : Int := a.1 * 18446744073709551616 + a.2
structure WdOk (a : Wd) : Prop where
  hi : 0 ≤ a.1 ∧ a.1 ≤ 18446744073709551615
  lo : 0 ≤ a.2 ∧ a.2 ≤ 18446744073709551615
def mkW (v : Int) : Wd := (v / 18446744073709551616, v % 18446744073709551616)
theorem mkW_wv {a : Wd} (h : WdOk a) : mkW (wv a) = a := by
  obtain ⟨h1, h2⟩ := h
  obtain ⟨x, y⟩ := a
  simp only [mkW, wv] at *
  exact Prod.ext (by simp only; omega) (by simp only; omega)
theorem wv_mkW (v : Int) : wv (mkW v) = v := by
  simp only [mkW, wv]; omega
theorem mkW_ok {v : Int} (h : 0 ≤ v) (h' : v < 340282366920938463463374607431768211456) : WdOk (mkW v) := by
  constructor <;> simp only [mkW] <;> omega
theorem wv_range {a : Wd} (h : WdOk a) : 0 ≤ wv a ∧ wv a < 340282366920938463463374607431768211456 := by
  obtain ⟨h1, h2⟩ := h
  simp only [wv]; omega
theorem wv_zero : wv (0, 0) = 0 := rfl
def addW (a b : Wd) : Wd × Int := if wv a + wv b < 340282366920938463463374607431768211456 then (mkW (wv a + wv b), 0) else ((0, 0), 1)
/-! ## events -/
def e0 : Ev := (0, (0, (0, false)))
structure EvOk (e : Ev) : Prop where
  t0 : 0 ≤ e.1
  t1 : e.1 < 35184372088832
  v0 : 0 ≤ e.2.1
  v1 : e.2.1 ≤ 18446744073709551615
  c0 : 0 ≤ e.2.2.1
  c1 : e.2.2.1 ≤ e.1
  st : e.2.2.2 = true → e.2.1 = 0 ∧ e.2.2.1 = 0
theorem evOk_iff (e : Ev) : EvOk e ↔ (0 ≤ e.1 ∧ e.1 < 35184372088832 ∧ 0 ≤ e.2.1 ∧ e.2.1 ≤ 18446744073709551615 ∧ 0 ≤ e.2.2.1 ∧ e.2.2.1 ≤ e.1 ∧ (e.2.2.2 = true → e.2.1 = 0 ∧ e.2.2.1 = 0)) :=
  ⟨fun ⟨a, b, c, d, f, g, h⟩ => ⟨a, b, c, d, f, g, h⟩, fun ⟨a, b, c, d, f, g, h⟩ => ⟨a, b, c, d, f, g, h⟩⟩
instance (e : Ev) : Decidable (EvOk e) := decidable_of_iff _ (evOk_iff e).symm
/-- what lies between two: by how much it rose, beginnings, gaps, seen -/
def btw (p c : Ev) : Int × (Int × (Int × Int)) :=
  if c.2.2.2 = true then (0, 0, 0, 0)
  else if p.1 < c.2.2.1 then (c.2.1, 1, 0, c.1 - c.2.2.1)
  else if p.2.2.2 = true then (0, 0, 1, 0)
  else if c.2.1 < p.2.1 then (c.2.1, 1, 0, c.1 - p.1)
  else (c.2.1 - p.2.1, 0, 0, c.1 - p.1)
structure DlOk (d : Int × (Int × (Int × Int))) (s : Int) : Prop where
  i : 0 ≤ d.1 ∧ d.1 ≤ 18446744073709551615
  r : 0 ≤ d.2.1
  g : 0 ≤ d.2.2.1
  rg : d.2.1 + d.2.2.1 ≤ 1
  s : 0 ≤ d.2.2.2 ∧ d.2.2.2 ≤ s
/-! ## cells -/
def z0 : Cel := (0, (e0, (e0, ((0, 0), (0, (0, 0))))))
/-- a cell that is right, and not zero -/
structure CellN (c : Cel) : Prop where
  n1 : 1 ≤ c.1
  f : EvOk c.2.1
  l : EvOk c.2.2.1
  one : c.1 = 1 → c.2.1 = c.2.2.1
  more : 1 < c.1 → c.2.1.1 < c.2.2.1.1
  n2 : c.1 - 1 ≤ c.2.2.1.1 - c.2.1.1
  w : WdOk c.2.2.2.1
  inc : wv c.2.2.2.1 ≤ 18446744073709551615 * (c.1 - 1)
  r : 0 ≤ c.2.2.2.2.1
  g : 0 ≤ c.2.2.2.2.2.1
  rg : c.2.2.2.2.1 + c.2.2.2.2.2.1 ≤ c.1 - 1
  s0 : 0 ≤ c.2.2.2.2.2.2
  s1 : c.2.2.2.2.2.2 ≤ c.2.2.1.1 - c.2.1.1
theorem wdOk_iff (a : Wd) : WdOk a ↔ (0 ≤ a.1 ∧ a.1 ≤ 18446744073709551615) ∧ (0 ≤ a.2 ∧ a.2 ≤ 18446744073709551615) :=
  ⟨fun ⟨a, b⟩ => ⟨a, b⟩, fun ⟨a, b⟩ => ⟨a, b⟩⟩
instance (a : Wd) : Decidable (WdOk a) := decidable_of_iff _ (wdOk_iff a).symm
theorem cellN_iff (c : Cel) : CellN c ↔ (1 ≤ c.1 ∧ EvOk c.2.1 ∧ EvOk c.2.2.1 ∧ (c.1 = 1 → c.2.1 = c.2.2.1) ∧ (1 < c.1 → c.2.1.1 < c.2.2.1.1) ∧ c.1 - 1 ≤ c.2.2.1.1 - c.2.1.1 ∧ WdOk c.2.2.2.1 ∧
    wv c.2.2.2.1 ≤ 18446744073709551615 * (c.1 - 1) ∧ 0 ≤ c.2.2.2.2.1 ∧ 0 ≤ c.2.2.2.2.2.1 ∧ c.2.2.2.2.1 + c.2.2.2.2.2.1 ≤ c.1 - 1 ∧ 0 ≤ c.2.2.2.2.2.2 ∧ c.2.2.2.2.2.2 ≤ c.2.2.1.1 - c.2.1.1) :=
  ⟨fun ⟨a, b, c, d, e, f, g, h, i, j, k, l, m⟩ => ⟨a, b, c, d, e, f, g, h, i, j, k, l, m⟩, fun ⟨a, b, c, d, e, f, g, h, i, j, k, l, m⟩ => ⟨a, b, c, d, e, f, g, h, i, j, k, l, m⟩⟩
instance (c : Cel) : Decidable (CellN c) := decidable_of_iff _ (cellN_iff c).symm
def CellOk (c : Cel) : Prop := c = z0 ∨ CellN c
instance (c : Cel) : Decidable (CellOk c) := by unfold CellOk; infer_instance
theorem CellN.ne {c : Cel} (h : CellN c) : c ≠ z0 := by
  intro e; have := h.n1; rw [e] at this; simp [z0] at this
theorem CellN.ok {c : Cel} (h : CellN c) : CellOk c := .inr h
theorem CellOk.n {c : Cel} (h : CellOk c) (hz : c ≠ z0) : CellN c := h.resolve_left hz
theorem CellOk.count {c : Cel} (h : CellOk c) : (c.1 = 0 ↔ c = z0) ∧ 0 ≤ c.1 := by
  rcases h with rfl | h
  · exact ⟨⟨fun _ => rfl, fun _ => rfl⟩, by simp [z0]⟩
  · have := h.n1; exact ⟨⟨fun e => by omega, fun e => absurd e h.ne⟩, by omega⟩
theorem CellN.ft {c : Cel} (h : CellN c) : c.2.1.1 ≤ c.2.2.1.1 := by have := h.n1; have := h.n2; omega
theorem CellN.small {c : Cel} (h : CellN c) : c.1 ≤ 35184372088832 := by
  have := h.n2; have := h.f.t0; have := h.l.t1; omega
/-- both together: the one ahead of the other -/
def mrg (a b : Cel) : Cel :=
  if a = z0 then b else if b = z0 then a else
    (a.1 + b.1, (a.2.1, (b.2.2.1, (mkW (wv a.2.2.2.1 + (btw a.2.2.1 b.2.1).1 + wv b.2.2.2.1),
      (a.2.2.2.2.1 + (btw a.2.2.1 b.2.1).2.1 + b.2.2.2.2.1, (a.2.2.2.2.2.1 + (btw a.2.2.1 b.2.1).2.2.1 + b.2.2.2.2.2.1, a.2.2.2.2.2.2 + (btw a.2.2.1 b.2.1).2.2.2 + b.2.2.2.2.2.2))))))
/-- the one lies ahead of the other, if neither is zero -/
def Ahead (a b : Cel) : Prop := a = z0 ∨ b = z0 ∨ a.2.2.1.1 < b.2.1.1
instance (a b : Cel) : Decidable (Ahead a b) := by unfold Ahead; infer_instance
def evCell (e : Ev) : Cel := (1, (e, (e, ((0, 0), (0, (0, 0))))))
/-- the cell of events -/
def cellOf (l : List Ev) : Cel := l.foldl (fun c e => mrg c (evCell e)) z0
/-- events that follow -/
structure Foll (l : List Ev) : Prop where
  ok : ∀ e ∈ l, EvOk e
  inc : l.Pairwise fun a b => a.1 < b.1
theorem Foll.nil : Foll [] := ⟨by simp, .nil⟩
theorem foll_append {l m : List Ev} : Foll (l ++ m) ↔ Foll l ∧ Foll m ∧ ∀ x ∈ l, ∀ y ∈ m, x.1 < y.1 := by
  constructor
  · rintro ⟨h1, h2⟩
    rw [List.pairwise_append] at h2
    exact ⟨⟨fun x hx => h1 x (by simp [hx]), h2.1⟩, ⟨fun x hx => h1 x (by simp [hx]), h2.2.1⟩, h2.2.2⟩
  · rintro ⟨h1, h2, h3⟩
    refine ⟨fun x hx => ?_, List.pairwise_append.2 ⟨h1.inc, h2.inc, h3⟩⟩
    rcases List.mem_append.1 hx with hx | hx
    · exact h1.ok x hx
    · exact h2.ok x hx
theorem Foll.sub {l m : List Ev} (h : Foll l) (s : m.Sublist l) : Foll m := ⟨fun e he => h.ok e (s.subset he), h.inc.sublist s⟩
/-- what a cell of events has -/
structure Has (l : List Ev) (c : Cel) : Prop where
  n : CellN c
  cnt : c.1 = l.length
  first : l.head? = some c.2.1
  last : l.getLast? = some c.2.2.1
/-- merged, or why not -/
def mrgE (a b : Cel) : Cel × Int := if CellOk a ∧ CellOk b then (if Ahead a b then (mrg a b, 0) else (z0, 9)) else (z0, 2)
/-- several merged -/
def allE : Cel → List Cel → Cel × Int
  | c, [] => (c, 0)
  | c, x :: r => if (mrgE c x).2 = 0 then allE (mrgE c x).1 r else (z0, (mrgE c x).2)
end Go.Plim
