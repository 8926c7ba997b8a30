/-
  Soundness of the flat reading, fourth part: what turns in memory of one's own.
-/
import Derived.Test.YtmooabafkcfbhaaFlatS3
namespace Go.Flat
open Go.RowKit (Below)

section
variable {P : Program} {W W' : World} {F F' : Fz} {E E' : EnvM} {h : Heap} {N : Nat → Prop}

/-- what a live block of one's own keeps in a step of the world -/
structure Spare (W : World) (F : Fz) (W' : World) (F' : Fz) (b : Nat) : Prop where
  same : W'.heap[b]? = W.heap[b]?
  free : ¬ F b → ¬ F' b

theorem BlkRel.later {L : Loc} {B : Blk} (hl : Later W F W' F') (hE : EnvLe E E') (hs : ∀ b, L.blk = some b → Spare W F W' F' b) (k : BlkRel P W F E L B) : BlkRel P W' F' E' L B := by
  cases B with
  | box t cs fr =>
    obtain ⟨b, arr, T, rfl, h1, h2, h3, h4, h5⟩ := k
    have hb := hs b rfl
    exact ⟨b, arr, T, rfl, by rw [hb.same]; exact h1, h2.later hl hE, h3, fun e => hb.free (h4 e), fun e => hl.more b (h5 e)⟩
  | arr e xs fr =>
    rcases k with k | ⟨b, cap, rfl, h1, h2, h3⟩
    · exact .inl k
    · have hb := hs b rfl
      obtain ⟨cs, T, k1, k2, k3, k4, k5, k6⟩ := h1
      exact .inr ⟨b, cap, rfl, ⟨cs, T, by rw [hb.same]; exact k1, k2, k3, k4, k5, fun i hi => (k6 i hi).later hl⟩, fun e => hb.free (h2 e), fun e => hl.more b (h3 e)⟩

/-- the live blocks of one's own, but for a name's -/
def liveBut (h : Heap) (E : EnvM) (n b : Nat) : Prop := ∃ m, m ≠ n ∧ atName h E m b
def liveAny (h : Heap) (E : EnvM) (b : Nat) : Prop := ∃ m, atName h E m b

/-- the world turns, but for what is live -/
theorem HR.world (hr : HR P W F E N h) (hl : Later W F W' F') (hs : ∀ b, liveAny h E b → Spare W F W' F' b) : HR P W' F' E N h := by
  refine ⟨hr.top, fun n ver b hb => ?_, hr.inj⟩
  obtain ⟨h1, L, h2, h3⟩ := hr.blk n ver b hb
  exact ⟨h1, L, h2, h3.later hl (EnvLe.refl E) fun x hx => hs x ⟨n, ver, b, L, hb, h2, hx⟩⟩

theorem HR.grow (hr : HR P W F E N h) (hg : Grow W F W' F') (hF : ∀ b, F b → b < W.heap.size) (hh : ∀ b, liveAny h E b → b < W.heap.size) : HR P W' F' E N h :=
  hr.world (hg.later hF) fun b hb => ⟨hg.below.block b (hh b hb), fun hn hf => by
    rcases hg.new b hf with k | k
    · exact hn k
    · have := hh b hb; omega⟩

/-- a name gets another entry -/
theorem HR.put (hr : HR P W F E N h) {n ver : Nat} {ob : Option Blk} (hN : N n) (hE : EnvLe E E')
    (htop : E'.top n = ver) (hoth : ∀ m, m ≠ n → E'.top m = E.top m) (hl : Later W F W' F')
    (hs : ∀ b, liveBut h E n b → Spare W F W' F' b)
    (hblk : ∀ B, ob = some B → ∃ L, E'.m n ver = some L ∧ BlkRel P W' F' E' L B ∧ ∀ x, L.blk = some x → ¬ liveBut h E n x) :
    HR P W' F' E' N (h.set n (ver, ob)) := by
  have hget : ∀ (m : Nat), m ≠ n → (h.set n (ver, ob))[m]? = h[m]? := fun m hm => by rw [List.getElem?_set_ne (fun e => hm e.symm)]
  have hself : ∀ v b, (h.set n (ver, ob))[n]? = some (v, b) → v = ver ∧ b = ob := by
    intro v b hb
    rw [List.getElem?_set] at hb
    simp only [if_true] at hb
    split at hb
    · injection hb with hb; injection hb with h1 h2; exact ⟨h1.symm, h2.symm⟩
    · cases hb
  have old : ∀ (m : Nat) v b, m ≠ n → h[m]? = some (v, some b) → v ≤ E.top m := by
    intro m v b _ hb
    obtain ⟨h1, _⟩ := hr.blk m v b hb
    exact Nat.le_of_eq (hr.top m v _ h1 hb)
  refine ⟨fun m v b hm hb => ?_, fun m v b hb => ?_, fun m1 m2 v1 v2 b1 b2 L M x hb1 hb2 hL hM hx hy => ?_⟩
  · by_cases e : m = n
    · subst e; rw [(hself v b hb).1, htop]
    · rw [hget m e] at hb; rw [hoth m e]; exact hr.top m v b hm hb
  · by_cases e : m = n
    · subst e
      obtain ⟨rfl, hob⟩ := hself v _ hb
      obtain ⟨L, k1, k2, _⟩ := hblk b hob.symm
      exact ⟨hN, L, k1, k2⟩
    · rw [hget m e] at hb
      obtain ⟨k1, L, k2, k3⟩ := hr.blk m v b hb
      refine ⟨k1, L, by rw [hE.m m v (old m v b e hb)]; exact k2, k3.later hl hE fun x hx => hs x ⟨m, e, v, b, L, hb, k2, hx⟩⟩
  · by_cases e1 : m1 = n
    · by_cases e2 : m2 = n
      · rw [e1, e2]
      · exfalso
        subst e1
        obtain ⟨rfl, hob⟩ := hself v1 _ hb1
        obtain ⟨L', k1, _, k3⟩ := hblk b1 hob.symm
        rw [k1] at hL
        injection hL with hL
        subst hL
        rw [hget m2 e2] at hb2
        rw [hE.m m2 v2 (old m2 v2 b2 e2 hb2)] at hM
        exact k3 x hx ⟨m2, e2, v2, b2, M, hb2, hM, hy⟩
    · rw [hget m1 e1] at hb1
      rw [hE.m m1 v1 (old m1 v1 b1 e1 hb1)] at hL
      by_cases e2 : m2 = n
      · exfalso
        subst e2
        obtain ⟨rfl, hob⟩ := hself v2 _ hb2
        obtain ⟨L', k1, _, k3⟩ := hblk b2 hob.symm
        rw [k1] at hM
        injection hM with hM
        subst hM
        exact k3 x hy ⟨m1, e1, v1, b1, L, hb1, hL, hx⟩
      · rw [hget m2 e2] at hb2
        rw [hE.m m2 v2 (old m2 v2 b2 e2 hb2)] at hM
        exact hr.inj m1 m2 v1 v2 b1 b2 L M x hb1 hb2 hL hM hx hy

/-- the environment with a name's next version -/
def EnvM.next (E : EnvM) (n : Nat) (L : Option Loc) : EnvM :=
  { m := fun m v => if m = n ∧ v = E.top n + 1 then L else E.m m v, top := fun m => if m = n then E.top n + 1 else E.top m }
theorem EnvM.next_le (E : EnvM) (n : Nat) (L : Option Loc) : EnvLe E (E.next n L) := by
  refine ⟨fun m => ?_, fun m v hv => ?_⟩
  · simp only [EnvM.next]; split
    · rename_i e; subst e; omega
    · exact Nat.le_refl _
  · simp only [EnvM.next]
    rw [if_neg]
    rintro ⟨rfl, rfl⟩
    omega
theorem EnvM.next_m (E : EnvM) (n : Nat) (L : Option Loc) : (E.next n L).m n (E.top n + 1) = L := by simp [EnvM.next]
theorem EnvM.next_top (E : EnvM) (n : Nat) (L : Option Loc) : (E.next n L).top n = E.top n + 1 := by simp [EnvM.next]
theorem EnvM.next_other (E : EnvM) (n : Nat) (L : Option Loc) (m : Nat) (h : m ≠ n) : (E.next n L).top m = E.top m := by simp [EnvM.next, h]

/-- where a name's live block is frozen -/
theorem atName_fun (hr : HR P W F E N h) {n m b : Nat} (k1 : atName h E n b) (k2 : atName h E m b) : n = m := by
  obtain ⟨v1, b1, L1, h1, e1, l1⟩ := k1
  obtain ⟨v2, b2, L2, h2, e2, l2⟩ := k2
  exact hr.inj n m v1 v2 b1 b2 L1 L2 b h1 h2 e1 e2 l1 l2

def Blk.freeze : Blk → Blk
  | .box t cs _ => .box t cs true
  | .arr e xs _ => .arr e xs true

theorem HR.freeze1 (hr : HR P W F E N h) {n ver : Nat} {B : Blk} (hb : h[n]? = some (ver, some B)) :
    HR P W (FzPlus F h E [n]) E N (h.set n (ver, some B.freeze)) := by
  obtain ⟨hN, L, hL, hB⟩ := hr.blk n ver B hb
  refine hr.put hN (EnvLe.refl E) (hr.top n ver _ hN hb).symm (fun _ _ => rfl) (Later.same fun _ hb => .inl hb) ?_ ?_
  · rintro b ⟨m, hm, hat⟩
    refine ⟨rfl, fun hn hf => ?_⟩
    rcases hf with hf | ⟨k, hk, hat'⟩
    · exact hn hf
    · simp at hk; subst hk
      exact hm (atName_fun hr hat hat')
  · intro B' hB'
    injection hB' with hB'
    subst hB'
    refine ⟨L, hL, ?_, fun x hx => ?_⟩
    · have hat : ∀ x, L.blk = some x → FzPlus F h E [n] x := fun x hx => .inr ⟨n, by simp, ver, B, L, hb, hL, hx⟩
      cases B with
      | box t cs fr =>
        obtain ⟨b, arr, T, rfl, h1, h2, h3, h4, h5⟩ := hB
        exact ⟨b, arr, T, rfl, h1, h2.later (later_plus [n]) (EnvLe.refl E), h3, fun e => by simp at e, fun _ => hat b rfl⟩
      | arr e xs fr =>
        rcases hB with k | ⟨b, cap, rfl, h1, h2, h3⟩
        · exact .inl k
        · obtain ⟨cs, T, k1, k2, k3, k4, k5, k6⟩ := h1
          exact .inr ⟨b, cap, rfl, ⟨cs, T, k1, k2, k3, k4, k5, fun i hi => (k6 i hi).later (later_plus [n])⟩, fun e => by simp at e, fun _ => hat b rfl⟩
    · rintro ⟨m, hm, hat⟩
      exact hm (atName_fun hr hat ⟨ver, B, L, hb, hL, hx⟩)

end
end Go.Flat
