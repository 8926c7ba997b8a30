/-
  Soundness of the flat reading, twenty-sixth part: what came over a bound.
-/
import Derived.Test.YtmooabafkcfbhaaFlatTG
namespace Go.Flat
open Go.RowKit (Below)

/-- 'unpackK', as it answers -/
def unpackP (h : Heap) : (t : Ty) → El t → List Cell → Nat → List Cell × List (Nat × Nat × Blk) × Nat
  | .unit, _, _, nm => ([], [], nm)
  | .pair a b, x, old, nm =>
    let p := unpackP h a x.1 (old.take (width a)) nm
    let q := unpackP h b x.2 (old.drop (width a)) p.2.2
    (p.1 ++ q.1, p.2.1 ++ q.2.1, q.2.2)
  | .wrap e, x, old, nm => unpackP h e x old nm
  | .own e, x, old, nm =>
    match oldName old with
    | some n => ([.lall n (verOf h n + 1)], [(n, verOf h n + 1, .arr e x false)], nm)
    | none => ([.lall nm (verOf h nm + 1)], [(nm, verOf h nm + 1, .arr e x false)], nm + 1)
  | .ref e, x, old, nm =>
    match oldName old with
    | some n => let p := unpackP h e x [] nm; ([.loc n (verOf h n + 1) 0], (n, verOf h n + 1, .box e p.1 false) :: p.2.1, p.2.2)
    | none => let p := unpackP h e x [] (nm + 1); ([.loc nm (verOf h nm + 1) 0], (nm, verOf h nm + 1, .box e p.1 false) :: p.2.1, p.2.2)
  | .opt e, x, old, nm => match x with | none => ([.np], [], nm) | some y => unpackP h e y old nm
  | .bool, x, _, nm => (cells .bool x, [], nm)
  | .int k, x, _, nm => (cells (.int k) x, [], nm)
  | .str, x, _, nm => (cells .str x, [], nm)
  | .slice e, x, _, nm => (cells (.slice e) x, [], nm)
  | .ptr e, x, _, nm => (cells (.ptr e) x, [], nm)
  | .fn a r, x, _, nm => (cells (.fn a r) x, [], nm)

theorem unpackK_eq {R : Type} (h : Heap) : ∀ (t : Ty) (x : El t) (old : List Cell) (nm : Nat) (k : List Cell → List (Nat × Nat × Blk) → Nat → Option R),
    unpackK h t x old nm k = k (unpackP h t x old nm).1 (unpackP h t x old nm).2.1 (unpackP h t x old nm).2.2 := by
  intro t
  induction t with
  | pair a b iha ihb => intro x old nm k; simp only [unpackK, unpackP, iha, ihb]
  | wrap e ih => intro x old nm k; exact ih x old nm k
  | own e _ => intro x old nm k; simp only [unpackK, unpackP]; cases oldName old <;> rfl
  | ref e ih => intro x old nm k; simp only [unpackK, unpackP]; cases oldName old <;> simp only [ih]
  | opt e ih => intro x old nm k; cases x with
    | none => rfl
    | some y => exact ih y old nm k
  | _ => intro x old nm k; rfl

def bsNames (bs : List (Nat × Nat × Blk)) : List Nat := bs.map (·.1)

theorem setBlks_append (h : Heap) (u v : List (Nat × Nat × Blk)) : setBlks h (u ++ v) = setBlks (setBlks h u) v := by
  induction u generalizing h with
  | nil => rfl
  | cons x r ih => obtain ⟨n, ver, b⟩ := x; exact ih _
theorem setBlks_length (bs : List (Nat × Nat × Blk)) : ∀ h : Heap, (setBlks h bs).length = h.length := by
  induction bs with
  | nil => intro h; rfl
  | cons x r ih => intro h; obtain ⟨n, ver, b⟩ := x; simp [setBlks, ih]
theorem setBlks_set (bs : List (Nat × Nat × Blk)) : ∀ (h : Heap) (n : Nat) (p : Nat × Option Blk), n ∉ bsNames bs → setBlks (h.set n p) bs = (setBlks h bs).set n p := by
  induction bs with
  | nil => intro h n p _; rfl
  | cons x r ih =>
    intro h n p hn
    obtain ⟨m, ver, b⟩ := x
    simp only [bsNames, List.map_cons, List.mem_cons, not_or] at hn
    simp only [setBlks]
    rw [List.set_comm _ _ hn.1, ih _ n p hn.2]
theorem setBlks_get (bs : List (Nat × Nat × Blk)) : ∀ (h : Heap) (n : Nat), n ∉ bsNames bs → (setBlks h bs)[n]? = h[n]? := by
  induction bs with
  | nil => intro h n _; rfl
  | cons x r ih =>
    intro h n hn
    obtain ⟨m, ver, b⟩ := x
    simp only [bsNames, List.map_cons, List.mem_cons, not_or] at hn
    simp only [setBlks]
    rw [ih _ n hn.2, List.getElem?_set_ne (fun e => hn.1 e.symm)]
theorem setUps_blks (bs : List (Nat × Nat × Blk)) : ∀ h : Heap, setUps h (bs.map fun b => (b.1, b.2.1, some b.2.2)) = setBlks h bs := by
  induction bs with
  | nil => intro h; rfl
  | cons x r ih => intro h; obtain ⟨n, ver, b⟩ := x; exact ih _

section
variable {P : Program} {W W' : World} {F F' : Fz} {N : Nat → Prop}

/-- what is there once a value has come over a bound -/
structure Came (P : Program) (W : World) (F : Fz) (E : EnvM) (N : Nat → Prop) (h : Heap) (O : List Nat) (bs : List (Nat × Nat × Blk)) (E' : EnvM) : Prop where
  env : EnvLe E E'
  hr : HR P W F E' N (setBlks h bs)
  tops : ∀ m, m ∉ bsNames bs → E'.top m = E.top m
  at_ : ∀ m b, atName (setBlks h bs) E' m b → (m ∈ bsNames bs ∧ b ∈ O) ∨ (m ∉ bsNames bs ∧ atName h E m b)

theorem Came.nil {E : EnvM} {h : Heap} {O : List Nat} (hr : HR P W F E N h) : Came P W F E N h O [] E :=
  ⟨EnvLe.refl E, hr, fun _ _ => rfl, fun m b hm => .inr ⟨by simp [bsNames], hm⟩⟩

/-- one more name -/
theorem Came.put {E E1 : EnvM} {h : Heap} {O O' : List Nat} {bs : List (Nat × Nat × Blk)} {n ver : Nat} {B : Blk} {L : Loc} (hc : Came P W F E N h O' bs E1) (hN : N n) (hlt : n < h.length) (hn : n ∉ bsNames bs)
    (hver : ver = E.top n + 1) (hB : BlkRel P W F (E1.next n (some L)) L B) (hO : ∀ b ∈ O', b ∈ O) (hL : ∀ x, L.blk = some x → x ∈ O ∧ x ∉ O' ∧ ¬ liveAny h E x) :
    Came P W F E N h O ((n, ver, B) :: bs) (E1.next n (some L)) := by
  have htop : E1.top n = E.top n := hc.tops n hn
  have hput : HR P W F (E1.next n (some L)) N ((setBlks h bs).set n (ver, some B)) := by
    refine hc.hr.put hN (EnvM.next_le _ _ _) (by rw [EnvM.next_top, hver, htop]) (fun m hm => EnvM.next_other _ _ _ m hm) (Later.refl W F) (fun b _ => ⟨rfl, fun h => h⟩) ?_
    intro B' hB'
    injection hB' with hB'
    subst hB'
    refine ⟨L, by rw [hver, ← htop]; exact EnvM.next_m _ _ _, hB, fun x hx => ?_⟩
    obtain ⟨h1, h2, h3⟩ := hL x hx
    rintro ⟨m, hm, hat⟩
    rcases hc.at_ m x hat with ⟨_, k⟩ | ⟨_, k⟩
    · exact h2 k
    · exact h3 ⟨m, k⟩
  have hset : setBlks h ((n, ver, B) :: bs) = (setBlks h bs).set n (ver, some B) := by
    simp only [setBlks]; exact setBlks_set bs h n _ hn
  refine ⟨hc.env.trans (EnvM.next_le _ _ _), by rw [hset]; exact hput, fun m hm => ?_, fun m b hat => ?_⟩
  · simp only [bsNames, List.map_cons, List.mem_cons, not_or] at hm
    rw [EnvM.next_other _ _ _ m hm.1]; exact hc.tops m hm.2
  · rw [hset] at hat
    by_cases e : m = n
    · subst e
      obtain ⟨v, B', L', h1, h2, h3⟩ := hat
      rw [List.getElem?_set] at h1
      simp [setBlks_length, hlt] at h1
      obtain ⟨rfl, rfl⟩ := h1
      rw [hver, ← htop, EnvM.next_m] at h2
      injection h2 with h2
      subst h2
      exact .inl ⟨by simp [bsNames], (hL b h3).1⟩
    · have hat' : atName (setBlks h bs) E1 m b := by
        obtain ⟨v, B', L', h1, h2, h3⟩ := hat
        rw [List.getElem?_set_ne (fun q => e q.symm)] at h1
        exact (atName_env (EnvM.next_le _ _ _) hc.hr).1 ⟨v, B', L', h1, h2, h3⟩
      rcases hc.at_ m b hat' with ⟨k1, k2⟩ | ⟨k1, k2⟩
      · exact .inl ⟨by simp [bsNames] at k1 ⊢; exact .inr k1, hO b k2⟩
      · exact .inr ⟨by simp only [bsNames, List.map_cons, List.mem_cons, not_or]; exact ⟨e, k1⟩, k2⟩

/-- the cells that came -/
def CameCells (P : Program) (W : World) (F : Fz) (E : EnvM) (t : Ty) (cs : List Cell) (g : Get) : Prop :=
  ∃ vs : List Value, vs.length = width t ∧ (∀ j, j < width t → g j = vs[j]?) ∧ RdCells P W F E cs vs

theorem unpackP_rd (h0 : Heap) : ∀ (t : Ty) (x : El t) (old : List Cell) (nm : Nat) {E : EnvM} {h : Heap} {O : List Nat} {g : Get}, HR P W F E N h → RdB P t x W F O g → O.Nodup → (∀ b ∈ O, ¬ F b) → (∀ b ∈ O, ¬ liveAny h E b) →
    (∀ n ∈ bsNames (unpackP h0 t x old nm).2.1, N n ∧ n < h.length ∧ verOf h0 n = E.top n) → (bsNames (unpackP h0 t x old nm).2.1).Nodup →
      ∃ E', Came P W F E N h O (unpackP h0 t x old nm).2.1 E' ∧ CameCells P W F E' t (unpackP h0 t x old nm).1 g := by
  have leaf : ∀ (t : Ty) (x : El t) {E : EnvM} {h : Heap} {O : List Nat} {g : Get}, HR P W F E N h → Rd P t x W F g → ∃ E', Came P W F E N h O [] E' ∧ CameCells P W F E' t (cells t x) g :=
    fun t x {E h O g} hr hx => ⟨E, Came.nil hr, cells_rd t x g hx⟩
  intro t
  induction t with
  | unit => intro x old nm E h O g hr _ _ _ _ _ _; exact ⟨E, Came.nil hr, [], rfl, fun j hj => by simp [width] at hj, RdCells.nil⟩
  | pair a b iha ihb =>
    intro x old nm E h O g hr hx hO hF hL hN hnd
    obtain ⟨O1, O2, rfl, h1, h2⟩ := hx
    simp only [unpackP, bsNames, List.map_append, List.mem_append] at hN hnd
    rw [List.nodup_append] at hO hnd
    obtain ⟨E1, c1, us, u1, u2, u3⟩ := iha x.1 (old.take (width a)) nm hr h1 hO.1 (fun b hb => hF b (by simp [hb])) (fun b hb => hL b (by simp [hb])) (fun n hn => hN n (.inl hn)) hnd.1
    have hlive : ∀ b ∈ O2, ¬ liveAny (setBlks h (unpackP h0 a x.1 (old.take (width a)) nm).2.1) E1 b := by
      rintro b hb ⟨m, hat⟩
      rcases c1.at_ m b hat with ⟨_, k⟩ | ⟨_, k⟩
      · exact hO.2.2 b k b hb rfl
      · exact hL b (by simp [hb]) ⟨m, k⟩
    have hne : ∀ n, n ∈ bsNames (unpackP h0 b x.2 (old.drop (width a)) (unpackP h0 a x.1 (old.take (width a)) nm).2.2).2.1 → n ∉ bsNames (unpackP h0 a x.1 (old.take (width a)) nm).2.1 :=
      fun n hn hn' => hnd.2.2 n hn' n hn rfl
    obtain ⟨E2, c2, vs, v1, v2, v3⟩ := ihb x.2 (old.drop (width a)) (unpackP h0 a x.1 (old.take (width a)) nm).2.2 c1.hr h2 hO.2.1 (fun b hb => hF b (by simp [hb])) hlive
      (fun n hn => by
        obtain ⟨k1, k2, k3⟩ := hN n (.inr hn)
        exact ⟨k1, by rw [setBlks_length]; exact k2, by rw [c1.tops n (hne n hn)]; exact k3⟩) hnd.2.1
    refine ⟨E2, ⟨c1.env.trans c2.env, by simp only [unpackP]; rw [setBlks_append]; exact c2.hr, fun m hm => ?_, fun m c hat => ?_⟩, us ++ vs, by simp [width, u1, v1], fun j hj => ?_, (u3.later (Later.refl W F) c2.env).append v3⟩
    · simp only [unpackP, bsNames, List.map_append, List.mem_append, not_or] at hm
      rw [c2.tops m hm.2, c1.tops m hm.1]
    · simp only [unpackP] at hat ⊢
      rw [setBlks_append] at hat
      simp only [bsNames, List.map_append, List.mem_append, not_or]
      rcases c2.at_ m c hat with ⟨k1, k2⟩ | ⟨k1, k2⟩
      · exact .inl ⟨.inr k1, .inr k2⟩
      · rcases c1.at_ m c k2 with ⟨q1, q2⟩ | ⟨q1, q2⟩
        · exact .inl ⟨.inl q1, .inl q2⟩
        · exact .inr ⟨⟨q1, k1⟩, q2⟩
    · simp only [width] at hj
      by_cases hj' : j < width a
      · rw [u2 j hj', List.getElem?_append_left (by omega)]
      · rw [List.getElem?_append_right (by omega), u1]
        have := v2 (j - width a) (by omega)
        rw [← this]
        show g j = g (width a + (j - width a))
        congr 1; omega
  | wrap e ih => intro x old nm E h O g hr hx; exact ih x old nm hr hx
  | own e _ =>
    intro x old nm E h O g hr hx hO hF hL hN hnd
    have key : ∀ n, N n → n < h.length → verOf h0 n = E.top n → ∃ E', Came P W F E N h O [(n, verOf h0 n + 1, .arr e x false)] E' ∧ CameCells P W F E' (.own e) [.lall n (verOf h0 n + 1)] g := by
      intro n hN hlt hver
      rw [hver]
      have fin : ∀ (L : Loc) (v : Value), g 0 = some v → v.oneCell' = true → BlkRel P W F (E.next n (some L)) L (.arr e x false) → (∀ y, L.blk = some y → y ∈ O) → RdLoc (.lall n (E.top n + 1)) L v →
          ∃ E', Came P W F E N h O [(n, E.top n + 1, .arr e x false)] E' ∧ CameCells P W F E' (.own e) [.lall n (E.top n + 1)] g := by
        intro L v hv h1 hB hLO hloc
        refine ⟨E.next n (some L), (Came.nil (O := []) hr).put hN hlt (by simp [bsNames]) rfl hB (by simp) (fun y hy => ⟨hLO y hy, by simp, hL y (hLO y hy)⟩), [v], rfl, fun j hj => ?_, RdCells.one ⟨?_, ⟨L, EnvM.next_m _ _ _⟩, fun L' hL' => ?_⟩ h1⟩
        · have : j = 0 := by simp [width] at hj; omega
          subst this; exact hv
        · rw [EnvM.next_top]; exact Nat.le_refl _
        · rw [EnvM.next_m] at hL'; injection hL' with hL'; subst hL'; exact hloc
      rcases hx with ⟨rfl, rfl, p, hp⟩ | ⟨b, cap, hp, hA, rfl⟩
      · exact fin .nil _ hp rfl (.inl ⟨rfl, rfl⟩) (fun y hy => by cases hy) ⟨p, rfl⟩
      · exact fin (.arr b (width e) x.length cap) _ hp rfl (.inr ⟨b, cap, rfl, hA, fun _ => hF b (by simp), fun e => by cases e⟩) (fun y hy => by injection hy with hy; simp [hy]) rfl
    simp only [unpackP] at hN ⊢
    cases hold : oldName old with
    | some n =>
      simp only [hold] at hN ⊢
      obtain ⟨k1, k2, k3⟩ := hN n (by simp [bsNames])
      exact key n k1 k2 k3
    | none =>
      simp only [hold] at hN ⊢
      obtain ⟨k1, k2, k3⟩ := hN nm (by simp [bsNames])
      exact key nm k1 k2 k3
  | ref e ih =>
    intro x old nm E h O g hr hx hO hF hL hN hnd
    obtain ⟨b, arr, T, O', hp, hb, hsz, hone, rfl, hin⟩ := hx
    rw [List.nodup_cons] at hO
    have key : ∀ n nm', N n → n < h.length → verOf h0 n = E.top n → (∀ m ∈ bsNames (unpackP h0 e x [] nm').2.1, N m ∧ m < h.length ∧ verOf h0 m = E.top m) → (bsNames (unpackP h0 e x [] nm').2.1).Nodup → n ∉ bsNames (unpackP h0 e x [] nm').2.1 →
        ∃ E', Came P W F E N h (b :: O') ((n, verOf h0 n + 1, .box e (unpackP h0 e x [] nm').1 false) :: (unpackP h0 e x [] nm').2.1) E' ∧ CameCells P W F E' (.ref e) [.loc n (verOf h0 n + 1) 0] g := by
      intro n nm' hNn hlt hver hN' hnd' hne
      rw [hver]
      obtain ⟨E1, c1, us, u1, u2, u3⟩ := ih x [] nm' hr hin hO.2 (fun b hb => hF b (by simp [hb])) (fun b hb => hL b (by simp [hb])) hN' hnd'
      have hus : us = arr.toList := by
        apply List.ext_getElem?
        intro j
        by_cases hj : j < width e
        · rw [← u2 j hj, Array.getElem?_toList]
        · rw [List.getElem?_eq_none (by omega), List.getElem?_eq_none (by simp; omega)]
      have htop : E1.top n = E.top n := c1.tops n hne
      have hlen : (unpackP h0 e x [] nm').1.length = width e := by rw [u3.1, u1]
      have c2 := c1.put (n := n) (ver := E.top n + 1) (O := b :: O') (L := .box b) (B := .box e (unpackP h0 e x [] nm').1 false) hNn hlt hne rfl
        ⟨b, arr, T, rfl, hb, by rw [← hus]; exact u3.later (Later.refl W F) (EnvM.next_le _ _ _), hlen, fun _ => hF b (by simp), fun e => by cases e⟩ (fun c hc => by simp [hc])
        (fun y hy => by injection hy with hy; subst hy; exact ⟨by simp, hO.1, hL b (by simp)⟩)
      refine ⟨_, c2, [.pointer (some ⟨b, 0, none⟩)], rfl, fun j hj => ?_, RdCells.one ⟨?_, ⟨.box b, ?_⟩, fun L' hL' => ?_⟩ rfl⟩
      · have : j = 0 := by simp [width] at hj; omega
        subst this; exact hp
      · rw [EnvM.next_top, htop]; exact Nat.le_refl _
      · rw [← htop]; exact EnvM.next_m _ _ _
      · rw [← htop, EnvM.next_m] at hL'; injection hL' with hL'; subst hL'; rfl
    simp only [unpackP] at hN hnd ⊢
    cases hold : oldName old with
    | some n =>
      simp only [hold, bsNames, List.map_cons, List.mem_cons, List.nodup_cons] at hN hnd ⊢
      obtain ⟨k1, k2, k3⟩ := hN n (.inl rfl)
      exact key n nm k1 k2 k3 (fun m hm => hN m (.inr hm)) hnd.2 hnd.1
    | none =>
      simp only [hold, bsNames, List.map_cons, List.mem_cons, List.nodup_cons] at hN hnd ⊢
      obtain ⟨k1, k2, k3⟩ := hN nm (.inl rfl)
      exact key nm (nm + 1) k1 k2 k3 (fun m hm => hN m (.inr hm)) hnd.2 hnd.1
  | opt e ih =>
    intro x old nm E h O g hr hx hO hF hL hN hnd
    cases x with
    | none =>
      refine ⟨E, Came.nil hr, [.pointer none], rfl, fun j hj => ?_, RdCells.one rfl rfl⟩
      have : j = 0 := by simp [width] at hj; omega
      subst this; exact hx.2
    | some y =>
      obtain ⟨E', c, vs, v1, v2, v3⟩ := ih y old nm hr hx.2 hO hF hL hN hnd
      exact ⟨E', c, vs, by rw [v1, hx.1]; rfl, fun j hj => v2 j (by rw [hx.1]; exact hj), v3⟩
  | _ => intro x old nm E h O g hr hx _ _ _ _ _; exact leaf _ x hr hx.2

end
end Go.Flat
