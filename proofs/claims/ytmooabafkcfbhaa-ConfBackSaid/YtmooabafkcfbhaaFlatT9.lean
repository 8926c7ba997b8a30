/-
  Soundness of the flat reading, eighteenth part: rows that are read; append, copy, clear.
-/
import Derived.Test.YtmooabafkcfbhaaFlatT8
namespace Go.Flat
open Go.RowKit (Below)

section
variable {cx : Cx} {call : Oracle cx} {fx : Hints} {W W' : World} {F F' : Fz} {E E' : EnvM} {h : Heap} {N : Nat → Prop} {ρ : Operand → V} {a : Act} {R : Type}

/-- the values of elements that lie in a row -/
theorem rows_of {P : Program} {e : Ty} {xs : List (El e)} {b off : Nat} (hx : ∀ i (h : i < xs.length), Rd P e xs[i] W F (mem W b (off + i * width e))) :
    ∃ us : List Value, us.length = xs.length * width e ∧ (∀ u ∈ us, u.oneCell' = true) ∧ (∀ j u, us[j]? = some u → W.cell? ⟨b, off + j, none⟩ = some u) ∧
      ∀ i (h : i < xs.length), Rd P e xs[i] W F (fun j => us[i * width e + j]?) := by
  have hcell : ∀ j, j < xs.length * width e → ∃ u, W.cell? ⟨b, off + j, none⟩ = some u ∧ u.oneCell' = true := by
    intro j hj
    have hw : 0 < width e := by
      rcases Nat.eq_zero_or_pos (width e) with q | q
      · rw [q] at hj; simp at hj
      · exact q
    have hi : j / width e < xs.length := by rw [Nat.div_lt_iff_lt_mul hw]; exact hj
    have hq : j % width e < width e := Nat.mod_lt _ hw
    obtain ⟨vs, m1, m2, m3⟩ := cells_rd (E := ⟨fun _ _ => none, fun _ => 0⟩) e _ _ (hx _ hi)
    have h1 := m2 _ hq
    have hlt : j % width e < vs.length := by omega
    rw [List.getElem?_eq_getElem hlt] at h1
    refine ⟨_, ?_, RdCells.one_all m3 _ (List.getElem_mem hlt)⟩
    rw [← h1]
    show _ = W.cell? _
    congr 2
    have := Nat.div_add_mod j (width e)
    rw [Nat.mul_comm] at this
    omega
  refine ⟨(List.range (xs.length * width e)).map fun j => (W.cell? ⟨b, off + j, none⟩).getD .nilFunc, by simp, fun u hu => ?_, fun j u hj => ?_, fun i hi => ?_⟩
  · simp only [List.mem_map, List.mem_range] at hu
    obtain ⟨j, hj, rfl⟩ := hu
    obtain ⟨u, h1, h2⟩ := hcell j hj
    rw [h1]; exact h2
  · rw [List.getElem?_map] at hj
    cases hr : (List.range (xs.length * width e))[j]? with
    | none => rw [hr] at hj; cases hj
    | some q =>
      rw [hr] at hj
      have hlt : j < xs.length * width e := by
        rcases Nat.lt_or_ge j (xs.length * width e) with z | z
        · exact z
        · rw [List.getElem?_eq_none (by simpa using z)] at hr; cases hr
      rw [List.getElem?_range hlt] at hr
      injection hr with hr
      subst hr
      obtain ⟨u', h1, h2⟩ := hcell j hlt
      simp [h1] at hj
      rw [h1, hj]
  · refine Rd.congr e (fun q hq => ?_) (hx i hi)
    have hlt := row_lt (w := width e) hi hq
    obtain ⟨u, h1, _⟩ := hcell _ hlt
    rw [List.getElem?_map, List.getElem?_range hlt]
    simp only [Option.map_some, h1, Option.getD_some, mem]
    rw [Nat.add_assoc, h1]

/-- a slice whose elements are read: all that is asked of it -/
structure RowRd (P : Program) (W : World) (F : Fz) (e : Ty) (xs : List (El e)) (v : Value) : Prop where
  row : (xs = [] ∧ ∃ p c, v = .slice p 0 c) ∨ ∃ b off cap, v = .slice (some ⟨b, off, none⟩) xs.length cap ∧ ∀ i (h : i < xs.length), Rd P e xs[i] W F (mem W b (off + i * width e))

theorem arr_mem {P : Program} {e : Ty} {xs : List (El e)} {b cap : Nat} (h : ArrAt P W F b cap e xs) : ∀ i (hi : i < xs.length), Rd P e xs[i] W F (mem W b (0 + i * width e)) := by
  obtain ⟨cs, T, q1, q2, q3, q4, q5, q6⟩ := h
  intro i hi
  refine Rd.congr e (fun q hq => ?_) (q6 i hi)
  simp only [mem, Nat.zero_add]
  rw [cell_of_row W b _ cs T (0, 0) q1]

theorem arrK_rd {e : Ty} {c : Cell} {k : List (El e) → Option R} {r : R} {v : Value} (hr : HR cx.P W F E N h) (hk : arrK cx call h e c k = some r) (hv : RdCell cx.P W F E c v) :
    ∃ xs, k xs = some r ∧ RowRd cx.P W F e xs v := by
  unfold arrK at hk
  split at hk
  case h_2 => cases hk
  rename_i xs ns hl
  refine ⟨xs, hk, ?_⟩
  cases c with
  | lall n ver =>
    simp only [leaf0] at hl
    split at hl
    case h_2 => cases hl
    rename_i ver' e' xs' fr hn
    split at hl
    case isFalse => cases hl
    rename_i hver
    subst hver
    simp only [Option.map_eq_some_iff] at hl
    obtain ⟨ys, hy, hyz⟩ := hl
    injection hyz with h1 h2
    subst h1
    obtain ⟨he, hxs⟩ := castEl_some hy
    injection he with he
    subst he
    simp only at hxs
    subst hxs
    obtain ⟨g1, g2, g3⟩ := hv
    rcases blk_arr hr hn with ⟨q1, rfl⟩ | ⟨b, cap, q1, q2, _⟩
    · obtain ⟨p, hp⟩ : RdLoc (.lall n ver) .nil v := g3 _ q1
      exact ⟨.inl ⟨rfl, p, 0, hp⟩⟩
    · have hp : v = .slice (some ⟨b, 0, none⟩) ys.length cap := g3 _ q1
      exact ⟨.inr ⟨b, 0, cap, hp, arr_mem q2⟩⟩
  | lsl n ver off len =>
    simp only [leaf0] at hl
    split at hl
    case h_2 => cases hl
    rename_i ver' e' xs' fr hn
    split at hl
    case isFalse => cases hl
    rename_i hver
    subst hver
    simp only [Option.map_eq_some_iff] at hl
    obtain ⟨ys, hy, hyz⟩ := hl
    injection hyz with h1 h2
    subst h1
    obtain ⟨he, hxs⟩ := castEl_some hy
    injection he with he
    subst he
    simp only at hxs
    subst hxs
    obtain ⟨g1, g2, g3⟩ := hv
    rcases blk_arr hr hn with ⟨q1, rfl⟩ | ⟨b, cap, q1, q2, _⟩
    · obtain ⟨⟨p, hp⟩, hl0, ho0⟩ : RdLoc (.lsl n ver off len) .nil v := g3 _ q1
      exact ⟨.inl ⟨by simp, p, 0, by rw [hp]⟩⟩
    · obtain ⟨hle, p, c, hp, hlc, hoc⟩ : RdLoc (.lsl n ver off len) (.arr b (width e') xs'.length cap) v := g3 _ q1
      have hlen : ((xs'.drop off).take len).length = len := by simp; omega
      refine ⟨.inr ⟨b, p, c, by rw [hlen]; exact hp, fun i hi => ?_⟩⟩
      rw [hlen] at hi
      obtain ⟨k1, k2⟩ := hoc (by omega)
      have := arr_mem q2 (off + i) (by omega)
      have e1 : ((xs'.drop off).take len)[i] = xs'[off + i]'(by omega) := by simp
      rw [e1, k1]
      rw [Nat.zero_add, Nat.add_mul] at this
      exact this
  | ns =>
    simp only [leaf0, Option.some.injEq, Prod.mk.injEq] at hl
    obtain ⟨rfl, _⟩ := hl
    obtain ⟨p, hp⟩ := hv
    exact ⟨.inl ⟨rfl, p, 0, hp⟩⟩
  | val t x =>
    simp only [leaf0, Option.map_eq_some_iff] at hl
    obtain ⟨ys, hy, hyz⟩ := hl
    injection hyz with h1 h2
    subst h1
    obtain ⟨he, hxs⟩ := castEl_some hy
    subst he
    simp only at hxs
    subst hxs
    rcases hv.2.2 with ⟨q0, p, q1⟩ | ⟨b, off, cap, q1, q2, q3, q4⟩
    · exact ⟨.inl ⟨q0, p, 0, by simpa using q1⟩⟩
    · exact ⟨.inr ⟨b, off, cap, by simpa using q1, q4⟩⟩
  | pin t x off => simp only [leaf0] at hl; cases hl
  | loc n ver off => simp only [leaf0] at hl; cases hl
  | lel n ver i off => simp only [leaf0] at hl; cases hl
  | clo f t x => simp only [leaf0] at hl; cases hl
  | np => simp only [leaf0] at hl; cases hl
  | nf => simp only [leaf0] at hl; cases hl
  | dead => simp only [leaf0] at hl; cases hl

end
end Go.Flat
