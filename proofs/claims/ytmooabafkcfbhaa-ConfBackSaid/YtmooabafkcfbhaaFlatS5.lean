/-
  Soundness of the flat reading, fifth part: freezing; what an operation leaves; the tables.
-/
import Derived.Test.YtmooabafkcfbhaaFlatS4
import Derived.Orders
namespace Go.Flat
open Go.RowKit (Below)

section
variable {P : Program} {W W' : World} {F F' : Fz} {E E' : EnvM} {h : Heap} {N : Nat → Prop}

theorem setUps_append (h : Heap) (u v : Ups) : setUps h (u ++ v) = setUps (setUps h u) v := by
  induction u generalizing h with
  | nil => rfl
  | cons x r ih => obtain ⟨n, ver, b⟩ := x; exact ih _

theorem freezeUps_cons (h : Heap) (n : Nat) (r : List Nat) : freezeUps h (n :: r) = (match h[n]? with | some (ver, some B) => [(n, ver, some B.freeze)] | _ => []) ++ freezeUps h r := by
  conv => lhs; unfold freezeUps
  cases hn : h[n]? with
  | none => rfl
  | some p =>
    obtain ⟨ver, ob⟩ := p
    cases ob with
    | none => rfl
    | some B => cases B <;> rfl

/-- two memories that part in what is frozen alone -/
def Frozer (h k : Heap) : Prop := ∀ m : Nat, k[m]? = h[m]? ∨ ∃ ver B, h[m]? = some (ver, some B) ∧ k[m]? = some (ver, some B.freeze)
theorem Blk.freeze_freeze (B : Blk) : B.freeze.freeze = B.freeze := by cases B <;> rfl
theorem Frozer.refl (h : Heap) : Frozer h h := fun _ => .inl rfl

theorem Frozer.atName {h k : Heap} (hk : Frozer h k) (n b : Nat) : atName k E n b ↔ atName h E n b := by
  constructor
  · rintro ⟨ver, B, L, h1, h2, h3⟩
    rcases hk n with e | ⟨ver', B', e1, e2⟩
    · exact ⟨ver, B, L, by rw [← e]; exact h1, h2, h3⟩
    · rw [e2] at h1; injection h1 with h1; injection h1 with h4 h5; subst h4
      exact ⟨_, B', L, e1, h2, h3⟩
  · rintro ⟨ver, B, L, h1, h2, h3⟩
    rcases hk n with e | ⟨ver', B', e1, e2⟩
    · exact ⟨ver, B, L, by rw [e]; exact h1, h2, h3⟩
    · rw [e1] at h1; injection h1 with h1; injection h1 with h4 h5; subst h4
      exact ⟨_, _, L, e2, h2, h3⟩

theorem HR.freeze (ns : List Nat) : ∀ {k : Heap} {F : Fz}, HR P W F E N k → Frozer h k → HR P W (FzPlus F h E ns) E N (setUps k (freezeUps h ns)) ∧ Frozer h (setUps k (freezeUps h ns)) := by
  induction ns with
  | nil =>
    intro k F hr hk
    refine ⟨hr.world (Later.same fun b hb => .inl hb) fun b _ => ⟨rfl, fun hn hf => ?_⟩, hk⟩
    rcases hf with hf | ⟨n, hn', _⟩
    · exact hn hf
    · cases hn'
  | cons n r ih =>
    intro k F hr hk
    have split2 : FzPlus (FzPlus F h E [n]) h E r = FzPlus F h E (n :: r) := by
      funext b
      apply propext
      constructor
      · rintro (h1 | ⟨m, hm, h1⟩)
        · rcases h1 with h1 | ⟨m, hm, h1⟩
          · exact .inl h1
          · exact .inr ⟨m, by simp at hm; simp [hm], h1⟩
        · exact .inr ⟨m, by simp [hm], h1⟩
      · rintro (h1 | ⟨m, hm, h1⟩)
        · exact .inl (.inl h1)
        · simp at hm
          rcases hm with rfl | hm
          · exact .inl (.inr ⟨m, by simp, h1⟩)
          · exact .inr ⟨m, hm, h1⟩
    rw [freezeUps_cons, setUps_append, ← split2]
    cases hn : h[n]? with
    | none =>
      have e : FzPlus F h E [n] = F := by
        funext b; apply propext
        constructor
        · rintro (h1 | ⟨m, hm, ver, B, L, h1, _⟩)
          · exact h1
          · simp at hm; subst hm; rw [hn] at h1; cases h1
        · exact .inl
      rw [e]
      exact ih hr hk
    | some p =>
      obtain ⟨ver, ob⟩ := p
      cases ob with
      | none =>
        have e : FzPlus F h E [n] = F := by
          funext b; apply propext
          constructor
          · rintro (h1 | ⟨m, hm, ver', B, L, h1, _⟩)
            · exact h1
            · simp at hm; subst hm; rw [hn] at h1; injection h1 with h1; injection h1 with _ h1; cases h1
          · exact .inl
        rw [e]
        exact ih hr hk
      | some B =>
        have hkn : ∃ B', k[n]? = some (ver, some B') ∧ B'.freeze = B.freeze := by
          rcases hk n with e | ⟨ver', B', e1, e2⟩
          · exact ⟨B, by rw [e]; exact hn, rfl⟩
          · rw [hn] at e1; injection e1 with e1; injection e1 with e3 e4; injection e4 with e4; subst e3; subst e4
            exact ⟨_, e2, Blk.freeze_freeze B⟩
        obtain ⟨B', hB1, hB2⟩ := hkn
        have h1 := hr.freeze1 hB1
        have e : FzPlus F k E [n] = FzPlus F h E [n] := by
          funext b; apply propext
          constructor
          · rintro (h1 | ⟨m, hm, h1⟩)
            · exact .inl h1
            · exact .inr ⟨m, hm, (hk.atName m b).1 h1⟩
          · rintro (h1 | ⟨m, hm, h1⟩)
            · exact .inl h1
            · exact .inr ⟨m, hm, (hk.atName m b).2 h1⟩
        rw [e, hB2] at h1
        refine ih h1 (fun m => ?_)
        by_cases hm : m = n
        · subst hm
          have hlt : m < k.length := by
            rcases Nat.lt_or_ge m k.length with h2 | h2
            · exact h2
            · rw [List.getElem?_eq_none h2] at hB1; cases hB1
          refine .inr ⟨ver, B, hn, ?_⟩
          show (k.set m (ver, some B.freeze))[m]? = _
          rw [List.getElem?_set]; simp [hlt]
        · have e : (k.set n (ver, some B.freeze))[m]? = k[m]? := List.getElem?_set_ne (fun e => hm e.symm)
          show (k.set n (ver, some B.freeze))[m]? = _ ∨ ∃ v B', _ ∧ (k.set n (ver, some B.freeze))[m]? = _
          rw [e]
          exact hk m

/-- names of updates -/
def upNames (u : Ups) : List Nat := u.map (·.1)

/-- WHAT AN OPERATION LEAVES. -/
structure OpPost (P : Program) (W : World) (F : Fz) (E : EnvM) (N : Nat → Prop) (h : Heap) (W' : World) (F' : Fz) (E' : EnvM) (u : Ups) : Prop where
  hr : HR P W' F' E' N (setUps h u)
  later : Later W F W' F'
  env : EnvLe E E'
  frame : ∀ b, b < W.heap.size → (∀ n ∈ upNames u, ¬ atName h E n b) → W'.heap[b]? = W.heap[b]?
  fz : ∀ b, F' b → F b ∨ (∃ n ∈ upNames u, atName h E n b) ∨ (W.heap.size ≤ b ∧ b < W'.heap.size)
  own : ∀ m b, m ∈ upNames u → atName (setUps h u) E' m b → (∃ n ∈ upNames u, atName h E n b) ∨ (W.heap.size ≤ b ∧ b < W'.heap.size)
  tops : ∀ m, m ∉ upNames u → E'.top m = E.top m

theorem OpPost.refl (hr : HR P W F E N h) : OpPost P W F E N h W F E [] :=
  ⟨hr, Later.refl W F, EnvLe.refl E, fun _ _ _ => rfl, fun _ hb => .inl hb, (fun _ _ hm => by cases hm), fun _ _ => rfl⟩

/-- an operation is carried out, and leaves V and u -/
def OpOk (P : Program) (o : Oper) (a : Act) (W : World) (F : Fz) (E : EnvM) (N : Nat → Prop) (h : Heap) (x : V) (u : Ups) : Prop :=
  ∀ (next : Act → World → Prop) (Q : Exit → Act → World → Prop),
    (∀ v W' F' E', OpPost P W F E N h W' F' E' u → RdV P W' F' E' x v → next (a.put o.dst v) W') → o.wp P a W next Q

theorem OpOk.value {o : Oper} {a : Act} {x : V} {v : Value} (hr : HR P W F E N h) (hrun : (execOp a.eval o).run P W = .ok (.value v) W) (hv : RdV P W F E x v) : OpOk P o a W F E N h x [] := by
  intro next Q hn
  unfold Oper.wp
  rw [hrun]
  exact hn v W F E (OpPost.refl hr) hv

theorem OpOk.grow {o : Oper} {a : Act} {x : V} {v : Value} (hr : HR P W F E N h) (hF : ∀ b, F b → b < W.heap.size) (hh : ∀ b, liveAny h E b → b < W.heap.size)
    (hrun : (execOp a.eval o).run P W = .ok (.value v) W') (hg : Grow W F W' F') (hv : RdV P W' F' E x v) : OpOk P o a W F E N h x [] := by
  intro next Q hn
  unfold Oper.wp
  rw [hrun]
  refine hn v W' F' E ⟨hr.grow hg hF hh, hg.later hF, EnvLe.refl E, fun b hb _ => hg.below.block b hb, fun b hb => ?_, (fun m b hm _ => by cases hm), fun _ _ => rfl⟩ hv
  rcases hg.new b hb with k | k
  · exact .inl k
  · exact .inr (.inr k)
end
end Go.Flat
