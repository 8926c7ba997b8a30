/-
  Soundness of the flat reading, second part: cells of closed values, and values out of cells.
-/
import Derived.Test.YtmooabafkcfbhaaFlatS1
namespace Go.Flat
open Go.RowKit (Below)

variable {P : Program} {W : World} {F : Fz} {E : EnvM}

theorem one_zero_iff (g : Get) (v : Value) (h : g 0 = some v) : ∀ j, j < 1 → (fun j => if j = 0 then some v else none) j = g j := by
  intro j hj
  have : j = 0 := by omega
  subst this
  simp [h]

/-- a leaf's reading is of one cell -/
theorem Rd.leaf {t : Ty} {x : El t} {g : Get} (hw : width t = 1) (h : Rd P t x W F g) {v : Value} (hv : g 0 = some v) : Rd P t x W F (fun j => if j = 0 then some v else none) :=
  Rd.congr t (fun j hj => one_zero_iff g v hv j (by omega)) h

theorem RdCells.append {a b : List Cell} {u v : List Value} (h : RdCells P W F E a u) (k : RdCells P W F E b v) : RdCells P W F E (a ++ b) (u ++ v) := by
  refine ⟨by simp [h.1, k.1], fun j c w h1 h2 => ?_⟩
  have hl := h.1
  by_cases hj : j < a.length
  · rw [List.getElem?_append_left hj] at h1
    rw [List.getElem?_append_left (by omega)] at h2
    exact h.2 j c w h1 h2
  · rw [List.getElem?_append_right (by omega)] at h1
    rw [List.getElem?_append_right (by omega), ← hl] at h2
    exact k.2 _ c w h1 h2

theorem RdCells.nil : RdCells P W F E [] [] := ⟨rfl, fun j c v h => by simp at h⟩

theorem RdCells.cons {c : Cell} {cs : List Cell} {v : Value} {vs : List Value} : RdCells P W F E (c :: cs) (v :: vs) ↔ (RdCell P W F E c v ∧ v.oneCell' = true) ∧ RdCells P W F E cs vs := by
  constructor
  · intro h
    refine ⟨h.2 0 c v rfl rfl, by have := h.1; simp at this; exact this, fun j a b h1 h2 => h.2 (j + 1) a b (by simpa using h1) (by simpa using h2)⟩
  · intro h
    refine ⟨by simp [h.2.1], fun j a b h1 h2 => ?_⟩
    cases j with
    | zero => simp at h1 h2; subst h1; subst h2; exact h.1
    | succ j => exact h.2.2 j a b (by simpa using h1) (by simpa using h2)

theorem RdCells.one {c : Cell} {v : Value} (h : RdCell P W F E c v) (hv : v.oneCell' = true) : RdCells P W F E [c] [v] := RdCells.cons.2 ⟨⟨h, hv⟩, RdCells.nil⟩

theorem RdCells.uncons {c : Cell} {cs : List Cell} {vs : List Value} (h : RdCells P W F E (c :: cs) vs) : ∃ v r, vs = v :: r ∧ RdCell P W F E c v ∧ v.oneCell' = true ∧ RdCells P W F E cs r := by
  cases vs with
  | nil => have := h.1; simp at this
  | cons v r => have := RdCells.cons.1 h; exact ⟨v, r, rfl, this.1.1, this.1.2, this.2⟩

theorem RdCells.take {cs : List Cell} {vs : List Value} (h : RdCells P W F E cs vs) (n : Nat) : RdCells P W F E (cs.take n) (vs.take n) := by
  refine ⟨by simp [h.1], fun j c v h1 h2 => ?_⟩
  rw [List.getElem?_take] at h1 h2
  split at h1
  · rename_i hj; simp only [hj, if_true] at h2; exact h.2 j c v h1 h2
  · cases h1
theorem RdCells.drop {cs : List Cell} {vs : List Value} (h : RdCells P W F E cs vs) (n : Nat) : RdCells P W F E (cs.drop n) (vs.drop n) := by
  refine ⟨by simp [h.1], fun j c v h1 h2 => ?_⟩
  rw [List.getElem?_drop] at h1 h2
  exact h.2 _ c v h1 h2

theorem width_cells : ∀ (t : Ty) (x : El t), (cells t x).length = width t := by
  intro t
  induction t with
  | pair a b iha ihb => intro x; simp [cells, width, iha, ihb]
  | wrap e ih => intro x; exact ih x
  | _ => intro x; rfl

/-- THE CELLS OF A CLOSED VALUE, where it is read. -/
theorem cells_rd : ∀ (t : Ty) (x : El t) (g : Get), Rd P t x W F g → ∃ vs : List Value, vs.length = width t ∧ (∀ j, j < width t → g j = vs[j]?) ∧ RdCells P W F E (cells t x) vs := by
  intro t
  induction t with
  | unit => intro x g _; exact ⟨[], rfl, fun j hj => by simp [width] at hj, RdCells.nil⟩
  | pair a b iha ihb =>
    intro x g h
    obtain ⟨u, hu1, hu2, hu3⟩ := iha x.1 _ h.1
    obtain ⟨v, hv1, hv2, hv3⟩ := ihb x.2 _ h.2
    refine ⟨u ++ v, by simp [width, hu1, hv1], fun j hj => ?_, hu3.append hv3⟩
    by_cases hj' : j < width a
    · rw [hu2 j hj', List.getElem?_append_left (by omega)]
    · rw [List.getElem?_append_right (by omega), hu1]
      have := hv2 (j - width a) (by simp [width] at hj; omega)
      rw [← this]
      congr 1; omega
  | wrap e ih => intro x g h; exact ih x g h
  | bool =>
    intro x g h
    exact ⟨[.bool x], rfl, fun j hj => by have : j = 0 := by simp [width] at hj; omega
                                          subst this; exact h, RdCells.one ⟨rfl, rfl, rfl⟩ rfl⟩
  | int k =>
    intro x g h
    exact ⟨[.int k x], rfl, fun j hj => by have : j = 0 := by simp [width] at hj; omega
                                           subst this; exact h, RdCells.one ⟨rfl, rfl, rfl⟩ rfl⟩
  | str =>
    intro x g h
    exact ⟨[.string ⟨x.toArray⟩], rfl, fun j hj => by have : j = 0 := by simp [width] at hj; omega
                                                      subst this; exact h, RdCells.one ⟨rfl, rfl, rfl⟩ rfl⟩
  | slice e ih =>
    intro x g h
    have hv : ∃ v, g 0 = some v ∧ v.oneCell' = true := by
      rcases h with ⟨_, a, h2⟩ | ⟨b, off, cap, h1, _⟩
      · exact ⟨_, h2, rfl⟩
      · exact ⟨_, h1, rfl⟩
    obtain ⟨v, hv, hone⟩ := hv
    exact ⟨[v], rfl, fun j hj => by have : j = 0 := by simp [width] at hj; omega
                                    subst this; exact hv, RdCells.one ⟨rfl, rfl, Rd.leaf (t := .slice e) rfl h hv⟩ hone⟩
  | ptr e ih =>
    intro x g h
    obtain ⟨b, off, h1, h2, h3⟩ := h
    exact ⟨[_], rfl, fun j hj => by have : j = 0 := by simp [width] at hj; omega
                                    subst this; exact h1, RdCells.one ⟨b, off, rfl, h2, h3⟩ rfl⟩
  | fn a r iha ihr =>
    intro x g h
    obtain ⟨f, caps, h1, h2⟩ := h
    exact ⟨[_], rfl, fun j hj => by have : j = 0 := by simp [width] at hj; omega
                                    subst this; exact h1, RdCells.one ⟨rfl, rfl, ⟨f, caps, rfl, h2⟩⟩ rfl⟩
  | own e ih => intro x g h; exact h.elim
  | ref e ih => intro x g h; exact h.elim
  | opt e ih => intro x g h; exact h.elim

end Go.Flat
