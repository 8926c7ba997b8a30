/-
  Soundness of the flat reading, twelfth part: what turns at one name.
-/
import Derived.Test.YtmooabafkcfbhaaFlatT2
import Derived.Laws.AppendOwn
namespace Go.Flat
open Go.RowKit (Below)

section
variable {P : Program} {W W' : World} {F F' : Fz} {E E' : EnvM} {h : Heap} {N : Nat → Prop}

theorem Frozer.length {h k : Heap} (hk : Frozer h k) (n : Nat) (hn : n < h.length) : n < k.length := by
  have hx : h[n]? = some h[n] := List.getElem?_eq_getElem hn
  rcases Nat.lt_or_ge n k.length with q | q
  · exact q
  · rcases hk n with e | ⟨v, B, e1, e2⟩
    · rw [List.getElem?_eq_none q, hx] at e; cases e
    · rw [List.getElem?_eq_none q] at e2; cases e2
theorem Frozer.ver {h k : Heap} (hk : Frozer h k) (n : Nat) : verOf k n = verOf h n := by
  unfold verOf
  rcases hk n with e | ⟨v, B, e1, e2⟩
  · rw [e]
  · rw [e1, e2]
theorem verOf_top (hr : HR P W F E N h) {n : Nat} (hN : N n) (hlt : n < h.length) : verOf h n = E.top n := by
  unfold verOf
  have hx : h[n]? = some h[n] := List.getElem?_eq_getElem hlt
  rw [hx]
  exact hr.top n _ _ hN hx

theorem mem_freeze {ns : List Nat} {n b : Nat} (hn : n ∈ ns) (ha : atName h E n b) : n ∈ upNames (freezeUps h ns) := by
  induction ns with
  | nil => cases hn
  | cons m r ih =>
    rw [freezeUps_cons]
    obtain ⟨ver, B, L, h1, h2, h3⟩ := ha
    simp only [upNames, List.map_append, List.mem_append]
    rcases List.mem_cons.1 hn with rfl | hn
    · left; rw [h1]; simp
    · right; exact ih hn

/-- where the newest version of a name does not stand -/
theorem FzPlus.lt (hr : HR P W F E N h) (hF : ∀ b, F b → b < W.heap.size) {ns : List Nat} {b : Nat} (hb : FzPlus F h E ns b) : b < W.heap.size := by
  rcases hb with hb | ⟨n, _, hb⟩
  · exact hF b hb
  · exact hr.lt b ⟨n, hb⟩

theorem atName_env (hE : EnvLe E E') (hr : HR P W F E N h) {n b : Nat} : atName h E' n b ↔ atName h E n b := by
  constructor
  · rintro ⟨ver, B, L, h1, h2, h3⟩
    have := (hr.top n ver _ (hr.blk n ver B h1).1 h1)
    exact ⟨ver, B, L, h1, by rw [← hE.m n ver (by omega)]; exact h2, h3⟩
  · rintro ⟨ver, B, L, h1, h2, h3⟩
    have := (hr.top n ver _ (hr.blk n ver B h1).1 h1)
    exact ⟨ver, B, L, h1, by rw [hE.m n ver (by omega)]; exact h2, h3⟩

theorem OpPost.turn {n ver' : Nat} {B : Blk} {ns : List Nat} {row : Option Nat} (hr : HR P W F E N h) (hF : ∀ b, F b → b < W.heap.size) (hN : N n) (hlt : n < h.length)
    (hE : EnvLe E E') (htop : E'.top n = ver') (hoth : ∀ m, m ≠ n → E'.top m = E.top m)
    (hw : W.grownBy W' row) (hrow : ∀ b, row = some b → atName h E n b ∧ ¬ FzPlus F h E ns b)
    (hF1 : ∀ b, FzPlus F h E ns b → F' b) (hF2 : ∀ b, F' b → FzPlus F h E ns b ∨ (W.heap.size ≤ b ∧ b < W'.heap.size))
    (hB : ∃ L, E'.m n ver' = some L ∧ BlkRel P W' F' E' L B ∧ ∀ x, L.blk = some x → row = some x ∨ (W.heap.size ≤ x ∧ x < W'.heap.size)) :
    OpPost P W F E N h W' F' E' (freezeUps h ns ++ [(n, ver', some B)]) := by
  obtain ⟨hr1, hfz⟩ := HR.freeze ns hr (Frozer.refl h)
  have hlater : Later W (FzPlus F h E ns) W' F' := ⟨hw.os, hw.tape, hw.output, hw.size, fun b hb => hw.block b (FzPlus.lt hr hF hb) (fun e => (hrow b e.symm).2 hb), hF1⟩
  obtain ⟨L, hL, hBL, hLx⟩ := hB
  have hput : HR P W' F' E' N ((setUps h (freezeUps h ns)).set n (ver', some B)) := by
    refine hr1.put hN hE htop hoth hlater ?_ ?_
    · rintro b ⟨m, hm, hat⟩
      have hat' := (hfz.atName m b).1 hat
      have hb := hr.lt b ⟨m, hat'⟩
      refine ⟨hw.block b hb (fun e => hm (atName_fun hr hat' (hrow b e.symm).1)), fun hn hf => ?_⟩
      rcases hF2 b hf with k | k
      · exact hn k
      · omega
    · intro B' hB'
      injection hB' with hB'
      subst hB'
      refine ⟨L, hL, hBL, fun x hx => ?_⟩
      rintro ⟨m, hm, hat⟩
      have hat' := (hfz.atName m x).1 hat
      rcases hLx x hx with k | k
      · exact hm (atName_fun hr hat' (hrow x k).1)
      · have := hr.lt x ⟨m, hat'⟩; omega
  have hup : ∀ m, m ∈ upNames (freezeUps h ns ++ [(n, ver', some B)]) ↔ m ∈ upNames (freezeUps h ns) ∨ m = n := by
    intro m; simp [upNames]
  have hset : setUps h (freezeUps h ns ++ [(n, ver', some B)]) = (setUps h (freezeUps h ns)).set n (ver', some B) := by rw [setUps_append]; rfl
  refine ⟨by rw [hset]; exact hput, (later_plus ns).trans hlater, hE, fun b hb hnot => ?_, fun b hb => ?_, fun m b hm hat => ?_, fun m hm => ?_⟩
  · refine hw.block b hb (fun e => ?_)
    exact hnot n ((hup n).2 (.inr rfl)) (hrow b e.symm).1
  · rcases hF2 b hb with (k | ⟨m, hm, k⟩) | k
    · exact .inl k
    · exact .inr (.inl ⟨m, (hup m).2 (.inl (mem_freeze hm k)), k⟩)
    · exact .inr (.inr k)
  · rw [hset] at hat
    by_cases e : m = n
    · subst e
      obtain ⟨v, B', L', h1, h2, h3⟩ := hat
      rw [List.getElem?_set] at h1
      simp [hfz.length m hlt] at h1
      obtain ⟨rfl, rfl⟩ := h1
      rw [hL] at h2
      injection h2 with h2
      subst h2
      rcases hLx b h3 with k | k
      · exact .inl ⟨m, hm, (hrow b k).1⟩
      · exact .inr k
    · have hat1 : atName (setUps h (freezeUps h ns)) E' m b := by
        obtain ⟨v, B', L', h1, h2, h3⟩ := hat
        rw [List.getElem?_set_ne (fun q => e q.symm)] at h1
        exact ⟨v, B', L', h1, h2, h3⟩
      have hat2 := (hfz.atName m b).1 ((atName_env hE hr1).1 hat1)
      exact .inl ⟨m, hm, hat2⟩
  · exact hoth m (fun e => hm ((hup m).2 (.inr e)))

end
end Go.Flat
