/-
  Soundness of the flat reading, twenty-seventh part: what comes back of a call.
-/
import Derived.Test.YtmooabafkcfbhaaFlatTH
namespace Go.Flat
open Go.RowKit (Below)

section
variable {P : Program} {W W' : World} {F F' : Fz} {E E' : EnvM} {h : Heap} {N : Nat → Prop}

/-- memory is known by its entries -/
theorem HR.ext {k : Heap} (hr : HR P W F E N h) (hk : ∀ n : Nat, k[n]? = h[n]?) : HR P W F E N k := by
  have : k = h := List.ext_getElem? hk
  rw [this]; exact hr

theorem setUps_length (u : Ups) : ∀ h : Heap, (setUps h u).length = h.length := by
  induction u with
  | nil => intro h; rfl
  | cons x r ih => intro h; obtain ⟨n, ver, b⟩ := x; simp [setUps, ih]
theorem setUps_set (u : Ups) : ∀ (h : Heap) (n : Nat) (p : Nat × Option Blk), n ∉ upNames u → setUps (h.set n p) u = (setUps h u).set n p := by
  induction u with
  | nil => intro h n p _; rfl
  | cons x r ih =>
    intro h n p hn
    obtain ⟨m, ver, b⟩ := x
    simp only [upNames, List.map_cons, List.mem_cons, not_or] at hn
    simp only [setUps]
    rw [List.set_comm _ _ hn.1, ih _ n p hn.2]
theorem setUps_get (u : Ups) : ∀ (h : Heap) (n : Nat), n ∉ upNames u → (setUps h u)[n]? = h[n]? := by
  induction u with
  | nil => intro h n _; rfl
  | cons x r ih =>
    intro h n hn
    obtain ⟨m, ver, b⟩ := x
    simp only [upNames, List.map_cons, List.mem_cons, not_or] at hn
    simp only [setUps]
    rw [ih _ n hn.2, List.getElem?_set_ne (fun e => hn.1 e.symm)]
/-- what stands at names that are turned does not hang on what stood there -/
theorem setUps_over (u : Ups) : ∀ (h k : Heap) (n : Nat), n ∈ upNames u → h.length = k.length → (setUps h u)[n]? = (setUps k u)[n]? := by
  induction u with
  | nil => intro h k n hn; cases hn
  | cons x r ih =>
    intro h k n hn hl
    obtain ⟨m, ver, b⟩ := x
    simp only [setUps]
    by_cases hr : n ∈ upNames r
    · exact ih _ _ n hr (by simp [hl])
    · simp only [upNames, List.map_cons, List.mem_cons] at hn
      have : n = m := hn.resolve_right hr
      subst this
      rw [setUps_get r _ n hr, setUps_get r _ n hr, List.getElem?_set, List.getElem?_set]
      simp [hl]

/-- what is there once turns of names have been carried out, that bring blocks -/
structure CameU (P : Program) (W : World) (F : Fz) (E : EnvM) (N : Nat → Prop) (h : Heap) (O : List Nat) (u : Ups) (E' : EnvM) : Prop where
  env : EnvLe E E'
  hr : HR P W F E' N (setUps h u)
  tops : ∀ m, m ∉ upNames u → E'.top m = E.top m
  at_ : ∀ m b, atName (setUps h u) E' m b → (m ∈ upNames u ∧ b ∈ O) ∨ (m ∉ upNames u ∧ atName h E m b)

theorem upNames_blks (bs : List (Nat × Nat × Blk)) : upNames (bs.map fun b => (b.1, b.2.1, some b.2.2)) = bsNames bs := by
  simp [upNames, bsNames]

theorem Came.toU {O : List Nat} {bs : List (Nat × Nat × Blk)} (hc : Came P W F E N h O bs E') : CameU P W F E N h O (bs.map fun b => (b.1, b.2.1, some b.2.2)) E' := by
  refine ⟨hc.env, by rw [setUps_blks]; exact hc.hr, by rw [upNames_blks]; exact hc.tops, fun m b hat => ?_⟩
  rw [setUps_blks] at hat
  rw [upNames_blks]
  exact hc.at_ m b hat

theorem CameU.append {E1 E2 : EnvM} {O1 O2 : List Nat} {u v : Ups} (h1 : CameU P W F E N h O1 u E1) (h2 : CameU P W F E1 N (setUps h u) O2 v E2) : CameU P W F E N h (O1 ++ O2) (u ++ v) E2 := by
  refine ⟨h1.env.trans h2.env, by rw [setUps_append]; exact h2.hr, fun m hm => ?_, fun m b hat => ?_⟩
  · simp only [upNames, List.map_append, List.mem_append, not_or] at hm
    rw [h2.tops m hm.2, h1.tops m hm.1]
  · rw [setUps_append] at hat
    simp only [upNames, List.map_append, List.mem_append, not_or]
    rcases h2.at_ m b hat with ⟨k1, k2⟩ | ⟨k1, k2⟩
    · exact .inl ⟨.inr k1, .inr k2⟩
    · rcases h1.at_ m b k2 with ⟨q1, q2⟩ | ⟨q1, q2⟩
      · exact .inl ⟨.inl q1, .inl q2⟩
      · exact .inr ⟨⟨q1, k1⟩, q2⟩

/-- a box is handed back where it was -/
theorem CameU.stay {E1 : EnvM} {O O' : List Nat} {u : Ups} {n ver : Nat} {B : Blk} {L : Loc} (hc : CameU P W F E N h O' u E1) (hN : N n) (hlt : n < h.length) (hn : n ∉ upNames u)
    (hver : ver = E.top n) (hLm : E.m n ver = some L) (hB : BlkRel P W F E1 L B) (hO : ∀ b ∈ O', b ∈ O) (hL : ∀ x, L.blk = some x → x ∈ O ∧ x ∉ O' ∧ ¬ liveAny h E x) :
    CameU P W F E N h O ((n, ver, some B) :: u) E1 := by
  have htop : E1.top n = E.top n := hc.tops n hn
  have hLm1 : E1.m n ver = some L := by rw [hc.env.m n ver (by omega)]; exact hLm
  have hput : HR P W F E1 N ((setUps h u).set n (ver, some B)) := by
    refine hc.hr.put hN (EnvLe.refl E1) (by rw [htop, hver]) (fun _ _ => rfl) (Later.refl W F) (fun b _ => ⟨rfl, fun h => h⟩) ?_
    intro B' hB'
    injection hB' with hB'
    subst hB'
    refine ⟨L, hLm1, hB, fun x hx => ?_⟩
    obtain ⟨h1, h2, h3⟩ := hL x hx
    rintro ⟨m, hm, hat⟩
    rcases hc.at_ m x hat with ⟨_, k⟩ | ⟨_, k⟩
    · exact h2 k
    · exact h3 ⟨m, k⟩
  have hset : setUps h ((n, ver, some B) :: u) = (setUps h u).set n (ver, some B) := by
    simp only [setUps]; exact setUps_set u h n _ hn
  refine ⟨hc.env, by rw [hset]; exact hput, fun m hm => ?_, fun m b hat => ?_⟩
  · simp only [upNames, List.map_cons, List.mem_cons, not_or] at hm
    exact hc.tops m hm.2
  · rw [hset] at hat
    by_cases e : m = n
    · subst e
      obtain ⟨v, B', L', h1, h2, h3⟩ := hat
      rw [List.getElem?_set] at h1
      simp [setUps_length, hlt] at h1
      obtain ⟨rfl, rfl⟩ := h1
      rw [hLm1] at h2
      injection h2 with h2
      subst h2
      exact .inl ⟨by simp [upNames], (hL b h3).1⟩
    · have hat' : atName (setUps h u) E1 m b := by
        obtain ⟨v, B', L', h1, h2, h3⟩ := hat
        rw [List.getElem?_set_ne (fun q => e q.symm)] at h1
        exact ⟨v, B', L', h1, h2, h3⟩
      rcases hc.at_ m b hat' with ⟨k1, k2⟩ | ⟨k1, k2⟩
      · exact .inl ⟨by simp [upNames] at k1 ⊢; exact .inr k1, hO b k2⟩
      · exact .inr ⟨by simp only [upNames, List.map_cons, List.mem_cons, not_or]; exact ⟨e, k1⟩, k2⟩

/-! ### one thing that comes back, and all -/

variable {R : Type}

def outK1 (h : Heap) : (e : Ty × Option Cell) → El e.1 → Nat → (List (Bool × List Cell) → Ups → Nat → Option R) → Option R
  | (t, none), x, nm, k => unpackK h t x [] nm fun cs bs nm => k [(agg t, cs)] (bs.map fun b => (b.1, b.2.1, some b.2.2)) nm
  | (t, some c), x, nm, k => outsK.backK h t c x nm fun u nm => k [] u nm

theorem outsK_one (h : Heap) (e : Ty × Option Cell) (x : El (tup [e.1])) (nm : Nat) (k : List (Bool × List Cell) → Ups → Option R) :
    outsK h [e] x nm k = outK1 h e x nm fun vs u _ => k vs u := by
  obtain ⟨t, oc⟩ := e
  cases oc <;> rfl
theorem outsK_cons (h : Heap) (e b : Ty × Option Cell) (r : List (Ty × Option Cell)) (x : El (tup ((e :: b :: r).map Prod.fst))) (nm : Nat) (k : List (Bool × List Cell) → Ups → Option R) :
    outsK h (e :: b :: r) x nm k = outK1 h e x.1 nm fun vs u nm => outsK h (b :: r) x.2 nm fun vs' u' => k (vs ++ vs') (u ++ u') := by
  obtain ⟨t, oc⟩ := e
  cases oc <;> rfl

/-- how what comes back reads -/
def OutV (P : Program) (W : World) (F : Fz) (E : EnvM) : List (Ty × Option Cell) → List (Bool × List Cell) → Get → Prop
  | [], vs, _ => vs = []
  | (t, none) :: r, vs, g => ∃ cs vs', vs = (agg t, cs) :: vs' ∧ CameCells P W F E t cs g ∧ OutV P W F E r vs' (fun j => g (width t + j))
  | (t, some _) :: r, vs, g => OutV P W F E r vs (fun j => g (width t + j))

theorem OutV.mono (hE : EnvLe E E') : ∀ {bt : List (Ty × Option Cell)} {vs : List (Bool × List Cell)} {g : Get}, OutV P W F E bt vs g → OutV P W F E' bt vs g := by
  intro bt
  induction bt with
  | nil => exact fun h => h
  | cons e r ih =>
    intro vs g h
    obtain ⟨t, oc⟩ := e
    cases oc with
    | none =>
      obtain ⟨cs, vs', h1, ⟨us, u1, u2, u3⟩, h3⟩ := h
      exact ⟨cs, vs', h1, ⟨us, u1, u2, u3.later (Later.refl W F) hE⟩, ih h3⟩
    | some c => exact ih (by exact h)

/-- what is handed back stands where it stood -/
def BackAll (P : Program) (W : World) (F : Fz) (E : EnvM) (h0 : Heap) : List (Ty × Option Cell) → Get → Prop
  | [], _ => True
  | (t, none) :: r, g => BackAll P W F E h0 r (fun j => g (width t + j))
  | (t, some c) :: r, g => (∀ e n ver o, t = .ref e → c = .loc n ver o → ∃ v, g 0 = some v ∧ RdCell P W F E c v ∧ verOf h0 n = ver) ∧ BackAll P W F E h0 r (fun j => g (width t + j))

theorem BackAll.mono {h0 : Heap} (hE : EnvLe E E') : ∀ {bt : List (Ty × Option Cell)} {g : Get}, BackAll P W F E h0 bt g → BackAll P W F E' h0 bt g := by
  intro bt
  induction bt with
  | nil => exact fun h => h
  | cons e r ih =>
    intro g h
    obtain ⟨t, oc⟩ := e
    cases oc with
    | none => exact ih (by exact h)
    | some c =>
      obtain ⟨h1, h4⟩ := h
      refine ⟨fun e n ver o he hc => ?_, ih h4⟩
      obtain ⟨v, k1, k2, k3⟩ := h1 e n ver o he hc
      exact ⟨v, k1, k2.later (Later.refl W F) hE, k3⟩

theorem out1_rd {h0 : Heap} {e : Ty × Option Cell} {x : El e.1} {nm : Nat} {k : List (Bool × List Cell) → Ups → Nat → Option R} {res : R} (hk : outK1 h0 e x nm k = some res) :
    ∃ vs u nm', k vs u nm' = some res ∧ ∀ {W : World} {F : Fz} {N : Nat → Prop} {E : EnvM} {h : Heap} {O : List Nat} {g : Get} {r : List (Ty × Option Cell)}, HR P W F E N h → RdB P e.1 x W F O g → O.Nodup → (∀ b ∈ O, ¬ F b) → (∀ b ∈ O, ¬ liveAny h E b) → BackAll P W F E h0 (e :: r) g →
      (∀ n ∈ upNames u, N n ∧ n < h.length ∧ verOf h0 n = E.top n) → (upNames u).Nodup → ∃ E', CameU P W F E N h O u E' ∧ ∀ {vs' : List (Bool × List Cell)} {E2 : EnvM}, EnvLe E' E2 → OutV P W F E2 r vs' (fun j => g (width e.1 + j)) → OutV P W F E2 (e :: r) (vs ++ vs') g := by
  obtain ⟨t, oc⟩ := e
  cases oc with
  | none =>
    simp only [outK1, unpackK_eq] at hk
    refine ⟨_, _, _, hk, ?_⟩
    intro W F N E h O g r hr hx hO hF hL hback hN hnd
    rw [upNames_blks] at hN hnd
    obtain ⟨E', c, vs, v1, v2, v3⟩ := unpackP_rd h0 t x [] nm hr hx hO hF hL hN hnd
    exact ⟨E', c.toU, fun {vs' E2} hE2 hrest => ⟨_, vs', rfl, ⟨vs, v1, v2, v3.later (Later.refl W F) hE2⟩, hrest⟩⟩
  | some c =>
    simp only [outK1] at hk
    unfold outsK.backK at hk
    split at hk
    case h_2 => cases hk
    rename_i nm _ _ _ _ _ e n ver off x
    rw [unpackK_eq] at hk
    refine ⟨_, _, _, hk, ?_⟩
    intro W F N E h O g r hr hx hO hF hL hback hN hnd
    obtain ⟨b, arr, T, O', hp, hb, hsz, hone, rfl, hin⟩ := hx
    obtain ⟨hb0, hrest⟩ := hback
    obtain ⟨v, hv, hc, hver⟩ := hb0 e n ver off rfl rfl
    rw [hp] at hv
    injection hv with hv
    subst hv
    obtain ⟨g1, ⟨L, hL1⟩, g3⟩ := hc
    have hloc := g3 L hL1
    have hLb : L = .box b := by
      cases L with
      | box b' =>
        simp only [RdLoc, Value.pointer.injEq, Option.some.injEq, Addr.mk.injEq, and_true] at hloc
        rw [hloc.1]
      | nil => exact hloc.elim
      | arr b' w l c => exact hloc.elim
    subst hLb
    simp only [upNames, List.map_cons, List.mem_cons, List.nodup_cons] at hN hnd
    have hun := upNames_blks (unpackP h0 e x (boxAt h0 n) nm).2.1
    simp only [upNames] at hun
    rw [hun] at hN hnd
    rw [List.nodup_cons] at hO
    obtain ⟨k1, k2, k3⟩ := hN n (.inl rfl)
    obtain ⟨E1, c1, us, u1, u2, u3⟩ := unpackP_rd h0 e x (boxAt h0 n) nm hr hin hO.2 (fun b hb => hF b (by simp [hb])) (fun b hb => hL b (by simp [hb])) (fun m hm => hN m (.inr hm)) hnd.2
    have hus : us = arr.toList := by
      apply List.ext_getElem?
      intro j
      by_cases hj : j < width e
      · rw [← u2 j hj, Array.getElem?_toList]
      · rw [List.getElem?_eq_none (by omega), List.getElem?_eq_none (by simp; omega)]
    have hlen : (unpackP h0 e x (boxAt h0 n) nm).1.length = width e := by rw [u3.1, u1]
    have c2 := c1.toU.stay (n := n) (ver := ver) (O := b :: O') (L := .box b) (B := .box e (unpackP h0 e x (boxAt h0 n) nm).1 false) k1 k2 (by rw [upNames_blks]; exact hnd.1) (by omega) hL1
      ⟨b, arr, T, rfl, hb, by rw [← hus]; exact u3, hlen, fun _ => hF b (by simp), fun e => by cases e⟩ (fun c hc => by simp [hc])
      (fun y hy => by injection hy with hy; subst hy; exact ⟨by simp, hO.1, hL b (by simp)⟩)
    exact ⟨E1, c2, fun {vs' E2} _ hr => by exact hr⟩

theorem outs_rd (h0 : Heap) : ∀ (bt : List (Ty × Option Cell)) (y : El (tup (bt.map Prod.fst))) (nm : Nat) (k : List (Bool × List Cell) → Ups → Option R) (res : R), outsK h0 bt y nm k = some res →
    ∃ vs u, k vs u = some res ∧ ∀ {W : World} {F : Fz} {N : Nat → Prop} {E : EnvM} {h : Heap} {O : List Nat} {g : Get}, HR P W F E N h → RdB P (tup (bt.map Prod.fst)) y W F O g → O.Nodup → (∀ b ∈ O, ¬ F b) → (∀ b ∈ O, ¬ liveAny h E b) → BackAll P W F E h0 bt g →
      (∀ n ∈ upNames u, N n ∧ n < h.length ∧ verOf h0 n = E.top n) → (upNames u).Nodup → ∃ E', CameU P W F E N h O u E' ∧ OutV P W F E' bt vs g := by
  intro bt
  induction bt with
  | nil =>
    intro y nm k res hk
    refine ⟨[], [], hk, ?_⟩
    intro W F N E h O g hr hx _ _ _ _ _ _
    exact ⟨E, ⟨EnvLe.refl E, hr, fun _ _ => rfl, fun m b hm => .inr ⟨by simp [upNames], hm⟩⟩, rfl⟩
  | cons e r ih =>
    intro y nm k res hk
    cases r with
    | nil =>
      rw [outsK_one] at hk
      obtain ⟨vs, u, nm', h1, h2⟩ := out1_rd (P := P) hk
      refine ⟨vs, u, h1, ?_⟩
      intro W F N E h O g hr hx hO hF hL hback hN hnd
      obtain ⟨E', c, ho⟩ := h2 (r := []) hr hx hO hF hL hback hN hnd
      exact ⟨E', c, by have := ho (vs' := []) (EnvLe.refl E') rfl; rwa [List.append_nil] at this⟩
    | cons e2 r =>
      rw [outsK_cons] at hk
      obtain ⟨vs, u, nm', h1, h2⟩ := out1_rd (P := P) hk
      obtain ⟨vs2, u2, h3, h4⟩ := ih y.2 nm' _ res h1
      refine ⟨vs ++ vs2, u ++ u2, h3, ?_⟩
      intro W F N E h O g hr hx hO hF hL hback hN hnd
      obtain ⟨O1, O2, rfl, x1, x2⟩ := hx
      rw [List.nodup_append] at hO
      simp only [upNames, List.map_append, List.mem_append] at hN hnd
      rw [List.nodup_append] at hnd
      obtain ⟨E1, c1, ho1⟩ := h2 (r := e2 :: r) hr x1 hO.1 (fun b hb => hF b (by simp [hb])) (fun b hb => hL b (by simp [hb])) hback (fun n hn => hN n (.inl hn)) hnd.1
      have hlive : ∀ b ∈ O2, ¬ liveAny (setUps h u) E1 b := by
        rintro b hb ⟨m, hat⟩
        rcases c1.at_ m b hat with ⟨_, k⟩ | ⟨_, k⟩
        · exact hO.2.2 b k b hb rfl
        · exact hL b (by simp [hb]) ⟨m, k⟩
      have hback2 : BackAll P W F E1 h0 (e2 :: r) (fun j => g (width e.1 + j)) := by
        obtain ⟨t, oc⟩ := e
        cases oc with
        | none => exact BackAll.mono c1.env (by exact hback)
        | some c => exact BackAll.mono c1.env hback.2
      obtain ⟨E2, c2, ho2⟩ := h4 c1.hr x2 hO.2.1 (fun b hb => hF b (by simp [hb])) hlive hback2
        (fun n hn => by
          obtain ⟨k1, k2, k3⟩ := hN n (.inr hn)
          exact ⟨k1, by rw [setUps_length]; exact k2, by rw [c1.tops n (fun hn' => hnd.2.2 n hn' n hn rfl)]; exact k3⟩) hnd.2.1
      exact ⟨E2, c1.append c2, ho1 c2.env ho2⟩

end
end Go.Flat
