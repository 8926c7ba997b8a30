/-
  Events and cells: what the program and the document make of them, as plain functions.
-/
import Derived.Test.YtapadkjknnfifaaGreatP01
namespace Go.Proofs.YtapadkjknnfifaaGreat
open Go.Flat Go.Plim
set_option linter.unusedVariables false
set_option linter.unusedSimpArgs false
theorem at_mid {α : Type} {l pre rest : List α} {x : α} {i : Int} (h : l = pre ++ x :: rest) (hi : i = pre.length) : at? l i = some x := by
  subst h hi; simp [at?]
theorem idx {α : Type} {l pre rest : List α} {x : α} {i len : Int} (h : l = pre ++ x :: rest) (hi : i = pre.length) (hn : len = l.length) : i < len := by
  have := congrArg List.length h
  simp at this
  omega
theorem idxe {α : Type} {l pre : List α} {i len : Int} (h : l = pre ++ []) (hi : i = pre.length) (hn : len = l.length) : ¬ (i < len) := by
  have := congrArg List.length h
  simp at this
  omega
theorem idxw {α : Type} {l pre rest : List α} {x : α} {i : Int} (h : l = pre ++ x :: rest) (hi : i = pre.length) (hL : l.length ≤ 1000000000000) : IntKind.wrap .i64 (i + 1) = i + 1 := by
  have := congrArg List.length h
  simp at this
  rw [w64 (by omega) (by omega)]
theorem idxs {α : Type} {pre : List α} {x : α} {i : Int} (hi : i = pre.length) : i + 1 = ((pre ++ [x]).length : Int) := by simp; omega
theorem idxl {α : Type} {l pre rest : List α} {x : α} (h : l = pre ++ x :: rest) : l = (pre ++ [x]) ++ rest := by rw [h]; simp
/-! ### equal, field by field -/
theorem evEq (a b : Ev) : ((decide (a.1 = b.1)) && ((decide (a.2.1 = b.2.1)) && ((decide (a.2.2.1 = b.2.2.1)) && (a.2.2.2 == b.2.2.2)))) = decide (a = b) := by
  rw [Bool.eq_iff_iff]; simp [Prod.ext_iff]
theorem celEq (a b : Cel) : ((decide (a.1 = b.1)) && ((decide (a.2.1.1 = b.2.1.1)) && ((decide (a.2.1.2.1 = b.2.1.2.1)) && ((decide (a.2.1.2.2.1 = b.2.1.2.2.1)) && ((a.2.1.2.2.2 == b.2.1.2.2.2) && ((decide (a.2.2.1.1 = b.2.2.1.1)) && ((decide (a.2.2.1.2.1 = b.2.2.1.2.1)) && ((decide (a.2.2.1.2.2.1 = b.2.2.1.2.2.1)) && ((a.2.2.1.2.2.2 == b.2.2.1.2.2.2) && ((decide (a.2.2.2.1.1 = b.2.2.2.1.1)) && ((decide (a.2.2.2.1.2 = b.2.2.2.1.2)) && ((decide (a.2.2.2.2.1 = b.2.2.2.2.1)) && ((decide (a.2.2.2.2.2.1 = b.2.2.2.2.2.1)) && (decide (a.2.2.2.2.2.2 = b.2.2.2.2.2.2))))))))))))))) = decide (a = b) := by
  rw [Bool.eq_iff_iff]; simp [Prod.ext_iff]; grind
/-! ### ranges -/
def I64 (x : Int) : Prop := -9223372036854775808 ≤ x ∧ x ≤ 9223372036854775807
structure EvW (e : Ev) : Prop where
  t : I64 e.1
  v : 0 ≤ e.2.1 ∧ e.2.1 ≤ 18446744073709551615
  c : I64 e.2.2.1
structure CelW (c : Cel) : Prop where
  n : I64 c.1
  f : EvW c.2.1
  l : EvW c.2.2.1
  w : WdOk c.2.2.2.1
  r : I64 c.2.2.2.2.1
  g : I64 c.2.2.2.2.2.1
  s : I64 c.2.2.2.2.2.2
theorem EvW.of {e : Ev} (h : EvOk e) : EvW e := by
  obtain ⟨a, b, c, d, f, g, _⟩ := h
  exact ⟨by unfold I64; omega, ⟨c, d⟩, by unfold I64; omega⟩
theorem CelW.ofN {c : Cel} (h : CellN c) : CelW c := by
  have := h.small; have := h.n1; have := h.f.t0; have := h.f.t1; have := h.l.t0; have := h.l.t1; have := h.r; have := h.g; have := h.rg; have := h.s0; have := h.s1
  exact ⟨by unfold I64; omega, .of h.f, .of h.l, h.w, by unfold I64; omega, by unfold I64; omega, by unfold I64; omega⟩
theorem celW_z0 : CelW z0 := ⟨by simp [I64, z0], ⟨by simp [I64, z0, e0], by simp [z0, e0], by simp [I64, z0, e0]⟩, ⟨by simp [I64, z0, e0], by simp [z0, e0], by simp [I64, z0, e0]⟩, ⟨by simp [z0], by simp [z0]⟩, by simp [I64, z0], by simp [I64, z0], by simp [I64, z0]⟩
theorem CelW.of {c : Cel} (h : CellOk c) : CelW c := by
  rcases h with rfl | h
  · exact celW_z0
  · exact .ofN h
/-! ### sums -/
/-! ### the document's product, by doubling -/
end Go.Proofs.YtapadkjknnfifaaGreat
